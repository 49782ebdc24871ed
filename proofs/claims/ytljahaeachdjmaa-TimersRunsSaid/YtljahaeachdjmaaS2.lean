/- Contracts of chapter 37's functions, seventh part: items popped. -/
import Derived.Test.YtljahaeachdjmaaS1
import Derived.Test.YtljahaeachdjmaaA3
import Derived.Test.YtljahaeachdjmaaChecked

set_option linter.unusedSimpArgs false
set_option linter.unusedVariables false
set_option maxHeartbeats 8000000
namespace Go.Proofs.Ytljahaeachdjmaa
open Go Go.Amb Go.IntWalk

def popF : Nat → List Item → Int → List Item × List Item
  | 0, xs, _ => ([], xs)
  | k + 1, xs, now => if 0 < xs.length ∧ (it xs 0).due ≤ now then (it xs 0 :: (popF k (removeF xs 0 (xs.length - 1)) now).1, (popF k (removeF xs 0 (xs.length - 1)) now).2) else ([], xs)
theorem f13 (N B H : Nat) (hB : B < N) (hH : H < N) (hBH : B ≠ H) (xs : List Item) (now : Int) (hl : xs.length ≤ 8796093022208) :
    BCall Try.prog 13 (Qs B H xs) N [.ptr B 0 0, .int .i64 now] (fun H1 n' v => ∃ r, N ≤ r ∧ r < n' ∧ H1 = (r, ⟨2, false, (popF (xs.length + 1) xs now).1.map Item.av⟩) :: Qs B H (popF (xs.length + 1) xs now).2 ∧ v = .hdr r 0 (popF (xs.length + 1) xs now).1.length) := by
  generalize hT : popF (xs.length + 1) xs now = T
  obtain ⟨H0, hH0⟩ : ∃ H0, H0 = Qs B H xs := ⟨_, rfl⟩
  have hkB : (mkH H0 B).isSome = true := by rw [hH0]; simp [Qs]
  have hkH : (mkH H0 H).isSome = true := by rw [hH0]; simp [Qs, show ¬ H = B by omega]
  rw [← hH0]
  refine bcall_coded a13_ok (by simp) ?_
  rw [show mkS (argT 0 [.ptr B 0 0, .int .i64 now]) H0 N = mkS [(0, .ptr B 0 0), (1, .int .i64 now)] [(B, ⟨2, true, [.agg [.hdr H 0 xs.length, .bool true]]⟩), (H, ⟨2, false, xs.map Item.av⟩)] N by rw [hH0]; rfl]
  have hN0 : (B = H) = False ∧ (H = B) = False ∧ (∀ q, (B = N + q) = False) ∧ (∀ q, (N + q = B) = False) ∧ (∀ q, (H = N + q) = False) ∧ (∀ q, (N + q = H) = False) ∧ (∀ q, B < N + q) ∧ (∀ q, H < N + q) ∧ (∀ q, (N + q < N) = False) := by
    refine ⟨?_, ?_, ?_, ?_, ?_, ?_, ?_, ?_, ?_⟩ <;> first | exact eq_false (by omega) | exact fun q => eq_false (by omega) | exact fun q => by omega
  rw [mkS_eq]
  repeat refine AW.seq ?_
  refine AW.reg ?_
  have hF := True.intro
  repeat (first | refine wD1 ?_ | refine wD2 ?_ | refine wE1 ?_ | refine wE2 ?_ | (refine wE3 ?_; intro _) | (refine wE4 ?_; intro _) | refine wN ?_ | ((with_reducible show evIs _ (_ :: _) _ _); first | refine wQ ?_ | refine wF ?_ | refine wG ?_ | refine wT ?_ | refine wM ?_ | refine wS ?_ | refine wP ?_ | refine wJ ?_ | refine wX ?_ | refine wY ?_ | refine wZ ?_))
  clear hF
  repeat refine evDone ?_
  try (show AW _ _ _ _ _)
  repeat refine AW.seq ?_
  refine AW.reg ?_
  have hF := True.intro
  repeat (first | refine wD1 ?_ | refine wD2 ?_ | refine wE1 ?_ | refine wE2 ?_ | (refine wE3 ?_; intro _) | (refine wE4 ?_; intro _) | refine wN ?_ | ((with_reducible show evIs _ (_ :: _) _ _); first | refine wQ ?_ | refine wF ?_ | refine wG ?_ | refine wT ?_ | refine wM ?_ | refine wS ?_ | refine wP ?_ | refine wJ ?_ | refine wX ?_ | refine wY ?_ | refine wZ ?_))
  clear hF
  repeat refine evDone ?_
  try (show AW _ _ _ _ _)
  repeat refine AW.seq ?_
  refine AW.block ?_
  refine AW.loop (fun g : Nat × List Item × List Item × Nat × Nat => g.2.2.1.length < g.1 ∧ (g.2.1 ++ (popF g.1 g.2.2.1 now).1, (popF g.1 g.2.2.1 now).2) = T ∧ g.2.1.length + g.2.2.1.length = xs.length ∧ N ≤ g.2.2.2.2 ∧ g.2.2.2.2 < g.2.2.2.1) (fun g => mkS [(0, .ptr B 0 0), (1, .int .i64 now), (5, .hdr g.2.2.2.2 0 g.2.1.length)] [(B, ⟨2, true, [.agg [.hdr H 0 g.2.2.1.length, .bool true]]⟩), (H, ⟨2, false, g.2.2.1.map Item.av⟩), (g.2.2.2.2, ⟨2, false, g.2.1.map Item.av⟩)] g.2.2.2.1) (fun g => g.1) (xs.length + 1, [], xs, N + 100, N + 50) ⟨by simp, by simpa using hT, by simp, by simp, by simp⟩ ?_ ?_
  · refine Fit.mk _ _ _ (by simp [hN0, conv2, newEmp, convs_refl, convs, conv]) (by simp [hN0, heapFit, newEmp, conv2s, conv2, convs_refl, convs, conv]) (by intro q hq; first | (simp at hq; done) | (simp at hq; omega) | (simp at hq; simp; omega))
  clear hT hH0
  rintro ⟨K, acc, ys, n, r⟩ ⟨hK, hT, hlen, hr1, hr2⟩
  dsimp only at hK hT hlen hr1 hr2 ⊢
  obtain ⟨K, rfl⟩ : ∃ K', K = K' + 1 := ⟨K - 1, by omega⟩
  have hN : (B = H) = False ∧ (H = B) = False ∧ (B = r) = False ∧ (r = B) = False ∧ (H = r) = False ∧ (r = H) = False ∧ (∀ q, (B = n + q) = False) ∧ (∀ q, (n + q = B) = False) ∧ (∀ q, (H = n + q) = False) ∧ (∀ q, (n + q = H) = False) ∧ (∀ q, (r = n + q) = False) ∧ (∀ q, (n + q = r) = False) ∧ (∀ q, B < n + q) ∧ (∀ q, H < n + q) ∧ (∀ q, r < n + q) ∧ (∀ q, (n + q < n) = False) ∧ B < n ∧ H < n := by
    refine ⟨?_, ?_, ?_, ?_, ?_, ?_, ?_, ?_, ?_, ?_, ?_, ?_, ?_, ?_, ?_, ?_, ?_, ?_⟩ <;> first | exact eq_false (by omega) | exact fun q => eq_false (by omega) | exact fun q => by omega | omega
  have hma : (∀ (fh fq : Nat → Nat → Nat → AV) (cs : List AV), mapA fh fq (.agg cs) = .agg (cs.map (mapA fh fq))) ∧ (∀ (fh fq : Nat → Nat → Nat → AV) (r o n : Nat), mapA fh fq (.hdr r o n) = fh r o n) ∧ (∀ (fh fq : Nat → Nat → Nat → AV) (b : Bool), mapA fh fq (.bool b) = .bool b) := by
    refine ⟨?_, ?_, ?_⟩ <;> intros <;> simp [mapA, mapAs_eq]
  have htk : (ys.map Item.av).take ys.length = ys.map Item.av := List.take_of_length_le (by simp)
  have hic := items_cl ys
  have h28 := f28 ys true
  simp only [qv, items] at h28
  have hout : ¬ (0 < ys.length ∧ (it ys 0).due ≤ now) → (acc, ys) = T := by
    intro h
    rw [← hT]
    simp [popF, h]
  repeat refine AW.seq ?_
  refine AW.reg ?_
  have hF := hN
  repeat (first | refine wD1 ?_ | refine wD2 ?_ | refine wE1 ?_ | refine wE2 ?_ | (refine wE3 ?_; intro _) | (refine wE4 ?_; intro _) | refine wN ?_ | ((with_reducible show evIs _ (_ :: _) _ _); first | refine wQ ?_ | refine wF ?_ | refine wG ?_ | refine wT ?_ | refine wM ?_ | refine wS ?_ | refine wP ?_ | refine wJ ?_ | refine wX ?_ | refine wY ?_ | refine wZ ?_))
  clear hF
  repeat refine evDone ?_
  try (show AW _ _ _ _ _)
  have hF := And.intro (hma) (And.intro (htk) (And.intro (hic) (hN)))
  refine wC (hA := h28) ?_
  clear hF
  by_cases h0 : ys = []
  · subst h0
    have hT2 := hout (by simp)
    subst hT2
    have hF := hN
    repeat (first | refine wD1 ?_ | refine wD2 ?_ | refine wE1 ?_ | refine wE2 ?_ | (refine wE3 ?_; intro _) | (refine wE4 ?_; intro _) | refine wN ?_ | ((with_reducible show evIs _ (_ :: _) _ _); first | refine wQ ?_ | refine wF ?_ | refine wG ?_ | refine wT ?_ | refine wM ?_ | refine wS ?_ | refine wP ?_ | refine wJ ?_ | refine wX ?_ | refine wY ?_ | refine wZ ?_))
    clear hF
    repeat refine evDone ?_
    try (show AW _ _ _ _ _)
    repeat refine AW.seq ?_
    refine AW.condF (by simp []) (by simp []) ?_
    refine AW.exit ?_
    show AW _ _ _ _ _
    repeat refine AW.seq ?_
    refine AW.reg ?_
    have hF := hN
    repeat (first | refine wD1 ?_ | refine wD2 ?_ | refine wE1 ?_ | refine wE2 ?_ | (refine wE3 ?_; intro _) | (refine wE4 ?_; intro _) | refine wN ?_ | ((with_reducible show evIs _ (_ :: _) _ _); first | refine wQ ?_ | refine wF ?_ | refine wG ?_ | refine wT ?_ | refine wM ?_ | refine wS ?_ | refine wP ?_ | refine wJ ?_ | refine wX ?_ | refine wY ?_ | refine wZ ?_))
    clear hF
    repeat refine evDone ?_
    try (show AW _ _ _ _ _)
    refine AW.ret ⟨by simp [resP, a13_res, ARes.op, hN], [(r, ⟨2, false, acc.map Item.av⟩), (B, ⟨2, true, [.agg [.hdr H 0 0, .bool true]]⟩), (H, ⟨2, false, []⟩)], n + 1000, [.hdr r 0 acc.length], ⟨r, hr1, by omega, rfl, rfl⟩, by omega, (by intro p hp; simp at hp; rcases hp with rfl | rfl | rfl <;> first | (left; exact hkB) | (left; exact hkH) | (right; dsimp only; omega)), rfl, by simp, ?_⟩
    simp only [resV, a13_res, List.map_cons, List.map_nil, ARes.op]
    refine Fit.mk _ _ _ (by simp [hN, conv2, newEmp, convs_refl, convs, conv]) (by simp [hN, heapFit, newEmp, conv2s, conv2, convs_refl, convs, conv]) (by intro q hq; first | (simp at hq; done) | (simp at hq; omega) | (simp at hq; simp; omega))
  · obtain ⟨m, hm⟩ : ∃ m, ys.length = m + 1 := ⟨ys.length - 1, by have := List.length_pos_iff.2 h0; omega⟩
    have hp : (0 : Int) < (m : Int) + 1 := by omega
    have he := it_av (xs := ys) (i := 0) (by omega)
    have h00 : (0 : Nat) < m + 1 := by omega
    by_cases hd : (it ys 0).due ≤ now
    · have hT2 : (acc ++ it ys 0 :: (popF K (removeF ys 0 m) now).1, (popF K (removeF ys 0 m) now).2) = T := by
        rw [← hT]
        simp [popF, hm, hd]
      have h30 := f30 (n + 200) B H (by omega) (by omega) (by omega) ys 0 m hm (by omega) (by omega)
      have hrl := removeF_len hm 0
      have hby : (acc.length + 1) * 16 ≤ 140737488355328 := by omega
      have hby2 : acc.length + 1 ≤ 9223372036854775807 := by omega
      simp only [box, Item.av] at h30
      rw [show ((0 : Nat) : Int) = 0 from rfl] at h30
      rw [hm]
      have hF := And.intro (hp) (And.intro (h00) (And.intro (he) (And.intro (hd) (And.intro (hm) (hN)))))
      repeat (first | refine wD1 ?_ | refine wD2 ?_ | refine wE1 ?_ | refine wE2 ?_ | (refine wE3 ?_; intro _) | (refine wE4 ?_; intro _) | refine wN ?_ | ((with_reducible show evIs _ (_ :: _) _ _); first | refine wQ ?_ | refine wF ?_ | refine wG ?_ | refine wT ?_ | refine wM ?_ | refine wS ?_ | refine wP ?_ | refine wJ ?_ | refine wX ?_ | refine wY ?_ | refine wZ ?_))
      clear hF
      repeat refine evDone ?_
      try (show AW _ _ _ _ _)
      repeat refine AW.seq ?_
      refine AW.condT (by simp [hd]) (by simp [hd]) ?_
      refine AW.skip ?_
      show AW _ _ _ _ _
      refine AW.block ?_
      repeat refine AW.seq ?_
      refine AW.reg ?_
      have hF := hN
      repeat (first | refine wD1 ?_ | refine wD2 ?_ | refine wE1 ?_ | refine wE2 ?_ | (refine wE3 ?_; intro _) | (refine wE4 ?_; intro _) | refine wN ?_ | ((with_reducible show evIs _ (_ :: _) _ _); first | refine wQ ?_ | refine wF ?_ | refine wG ?_ | refine wT ?_ | refine wM ?_ | refine wS ?_ | refine wP ?_ | refine wJ ?_ | refine wX ?_ | refine wY ?_ | refine wZ ?_))
      clear hF
      repeat refine evDone ?_
      try (show AW _ _ _ _ _)
      have hF := And.intro (hN) (hm)
      refine wL (hA := h30) ?_
      clear hF
      rintro _ _ _ ⟨rfl, rfl, rfl⟩
      have hF := And.intro (hby) (And.intro (hby2) (hN))
      repeat (first | refine wD1 ?_ | refine wD2 ?_ | refine wE1 ?_ | refine wE2 ?_ | (refine wE3 ?_; intro _) | (refine wE4 ?_; intro _) | refine wN ?_ | ((with_reducible show evIs _ (_ :: _) _ _); first | refine wQ ?_ | refine wF ?_ | refine wG ?_ | refine wT ?_ | refine wM ?_ | refine wS ?_ | refine wP ?_ | refine wJ ?_ | refine wX ?_ | refine wY ?_ | refine wZ ?_))
      clear hF
      repeat refine evDone ?_
      try (show AW _ _ _ _ _)
      refine ⟨(K, acc ++ [it ys 0], removeF ys 0 m, n + 1300, n + 27), ⟨by dsimp only; omega, by simpa using hT2, by simp [hrl]; omega, by dsimp only; omega, by dsimp only; omega⟩, by dsimp only; omega, ?_⟩
      refine Fit.mk _ _ _ (by simp [hrl, hN, Item.av, conv2, newEmp, convs_refl, convs, conv]) (by simp [hrl, hN, Item.av, heapFit, newEmp, conv2s, conv2, convs_refl, convs, conv]) (by intro q hq; first | (simp at hq; done) | (simp at hq; omega) | (simp at hq; simp; omega))
    · have hT2 := hout (by simp [hd])
      subst hT2
      rw [hm]
      have hF := And.intro (hp) (And.intro (h00) (And.intro (he) (And.intro (hd) (And.intro (hm) (hN)))))
      repeat (first | refine wD1 ?_ | refine wD2 ?_ | refine wE1 ?_ | refine wE2 ?_ | (refine wE3 ?_; intro _) | (refine wE4 ?_; intro _) | refine wN ?_ | ((with_reducible show evIs _ (_ :: _) _ _); first | refine wQ ?_ | refine wF ?_ | refine wG ?_ | refine wT ?_ | refine wM ?_ | refine wS ?_ | refine wP ?_ | refine wJ ?_ | refine wX ?_ | refine wY ?_ | refine wZ ?_))
      clear hF
      repeat refine evDone ?_
      try (show AW _ _ _ _ _)
      repeat refine AW.seq ?_
      refine AW.condF (by simp [hd]) (by simp [hd]) ?_
      refine AW.exit ?_
      show AW _ _ _ _ _
      repeat refine AW.seq ?_
      refine AW.reg ?_
      have hF := hN
      repeat (first | refine wD1 ?_ | refine wD2 ?_ | refine wE1 ?_ | refine wE2 ?_ | (refine wE3 ?_; intro _) | (refine wE4 ?_; intro _) | refine wN ?_ | ((with_reducible show evIs _ (_ :: _) _ _); first | refine wQ ?_ | refine wF ?_ | refine wG ?_ | refine wT ?_ | refine wM ?_ | refine wS ?_ | refine wP ?_ | refine wJ ?_ | refine wX ?_ | refine wY ?_ | refine wZ ?_))
      clear hF
      repeat refine evDone ?_
      try (show AW _ _ _ _ _)
      refine AW.ret ⟨by simp [resP, a13_res, ARes.op, hN], [(r, ⟨2, false, acc.map Item.av⟩), (B, ⟨2, true, [.agg [.hdr H 0 (m + 1), .bool true]]⟩), (H, ⟨2, false, ys.map Item.av⟩)], n + 1000, [.hdr r 0 acc.length], ⟨r, hr1, by omega, by simp [Qs, box, hm], rfl⟩, by omega, (by intro p hp; simp at hp; rcases hp with rfl | rfl | rfl <;> first | (left; exact hkB) | (left; exact hkH) | (right; dsimp only; omega)), rfl, by simp, ?_⟩
      simp only [resV, a13_res, List.map_cons, List.map_nil, ARes.op]
      refine Fit.mk _ _ _ (by simp [hN, conv2, newEmp, convs_refl, convs, conv]) (by simp [hN, heapFit, newEmp, conv2s, conv2, convs_refl, convs, conv]) (by intro q hq; first | (simp at hq; done) | (simp at hq; omega) | (simp at hq; simp; omega))
end Go.Proofs.Ytljahaeachdjmaa

set_option linter.unusedSimpArgs false
set_option linter.unusedVariables false
set_option maxHeartbeats 8000000
namespace Go.Proofs.Ytljahaeachdjmaa
open Go Go.Amb Go.IntWalk

theorem has_no {l : List Item} {x : Item} (h : ∀ j, j < l.length → ∀ y, l[j]? = some y → ¬ y = x) : decide (x ∈ l) = false := by
  simp only [decide_eq_false_iff_not]
  intro hx
  obtain ⟨j, hj, rfl⟩ := List.getElem_of_mem hx
  exact h j hj _ (List.getElem?_eq_getElem hj) rfl
theorem f14 (l : List Item) (x : Item) (hl : l.length ≤ 9223372036854775807) : ACall Try.prog 14 [items l, x.av] (· = .bool (decide (x ∈ l))) := by
  obtain ⟨a1, a2⟩ := x
  simp only [items, Item.av]
  refine a14_of (by simp) ?_
  repeat refine AW.seq ?_
  refine AW.reg ?_
  have hF := True.intro
  repeat (first | refine wD1 ?_ | refine wD2 ?_ | refine wE1 ?_ | refine wE2 ?_ | (refine wE3 ?_; intro _) | (refine wE4 ?_; intro _) | refine wN ?_ | ((with_reducible show evIs _ (_ :: _) _ _); first | refine wQ ?_ | refine wF ?_ | refine wG ?_ | refine wT ?_ | refine wM ?_ | refine wS ?_ | refine wP ?_ | refine wJ ?_ | refine wX ?_ | refine wY ?_ | refine wZ ?_))
  clear hF
  repeat refine evDone ?_
  try (show AW _ _ _ _ _)
  repeat refine AW.seq ?_
  refine AW.reg ?_
  have hF := True.intro
  repeat (first | refine wD1 ?_ | refine wD2 ?_ | refine wE1 ?_ | refine wE2 ?_ | (refine wE3 ?_; intro _) | (refine wE4 ?_; intro _) | refine wN ?_ | ((with_reducible show evIs _ (_ :: _) _ _); first | refine wQ ?_ | refine wF ?_ | refine wG ?_ | refine wT ?_ | refine wM ?_ | refine wS ?_ | refine wP ?_ | refine wJ ?_ | refine wX ?_ | refine wY ?_ | refine wZ ?_))
  clear hF
  repeat refine evDone ?_
  try (show AW _ _ _ _ _)
  repeat refine AW.seq ?_
  refine AW.block ?_
  refine AW.loop (fun i : Nat => i ≤ l.length ∧ ∀ j, j < i → ∀ y, l[j]? = some y → ¬ y = ⟨a1, a2⟩) (fun i => mkS [(0, .sl .fro (l.map Item.av)), (3, .ptr 0 0 0), (7, .int .i64 l.length), (8, .int .i64 i)] [(0, ⟨2, true, [.agg [.int .i64 a1, .int .i64 a2]]⟩)] 10) (fun i => l.length - i) 0 ⟨by simp, fun j hj => absurd hj (by simp)⟩ ?_ ?_
  · refine Fit.mk _ _ _ (by simp [hl, conv2, newEmp, convs_refl, convs, conv]) (by simp [hl, heapFit, newEmp, conv2s, conv2, convs_refl, convs, conv]) (by intro q hq; first | (simp at hq; done) | (simp at hq; omega) | (simp at hq; simp; omega))
  · rintro i ⟨hi, hno⟩
    repeat refine AW.seq ?_
    refine AW.reg ?_
    by_cases hlt : i < l.length
    · have hF := hlt
      repeat (first | refine wD1 ?_ | refine wD2 ?_ | refine wE1 ?_ | refine wE2 ?_ | (refine wE3 ?_; intro _) | (refine wE4 ?_; intro _) | refine wN ?_ | ((with_reducible show evIs _ (_ :: _) _ _); first | refine wQ ?_ | refine wF ?_ | refine wG ?_ | refine wT ?_ | refine wM ?_ | refine wS ?_ | refine wP ?_ | refine wJ ?_ | refine wX ?_ | refine wY ?_ | refine wZ ?_))
      clear hF
      repeat refine evDone ?_
      try (show AW _ _ _ _ _)
      repeat refine AW.seq ?_
      refine AW.condT (by simp []) (by simp []) ?_
      refine AW.skip ?_
      show AW _ _ _ _ _
      refine AW.seq (AW.block ?_)
      obtain ⟨y, hy⟩ : ∃ y, l[i]? = some y := ⟨_, List.getElem?_eq_getElem hlt⟩
      have he := elem_map (f := Item.av) hy
      have hyy := hy
      obtain ⟨b1, b2⟩ := y
      simp only [Item.av] at he
      repeat refine AW.seq ?_
      refine AW.reg ?_
      have hF := And.intro (hlt) (he)
      repeat (first | refine wD1 ?_ | refine wD2 ?_ | refine wE1 ?_ | refine wE2 ?_ | (refine wE3 ?_; intro _) | (refine wE4 ?_; intro _) | refine wN ?_ | ((with_reducible show evIs _ (_ :: _) _ _); first | refine wQ ?_ | refine wF ?_ | refine wG ?_ | refine wT ?_ | refine wM ?_ | refine wS ?_ | refine wP ?_ | refine wJ ?_ | refine wX ?_ | refine wY ?_ | refine wZ ?_))
      clear hF
      repeat refine evDone ?_
      try (show AW _ _ _ _ _)
      repeat refine AW.seq ?_
      refine AW.draw ?_
      by_cases hc : b1 = a1 ∧ b2 = a2
      · obtain ⟨rfl, rfl⟩ := hc
        have hm : (Item.mk b1 b2) ∈ l := List.mem_of_getElem? hyy
        have hF := And.intro (hlt) (he)
        repeat (first | refine wD1 ?_ | refine wD2 ?_ | refine wE1 ?_ | refine wE2 ?_ | (refine wE3 ?_; intro _) | (refine wE4 ?_; intro _) | refine wN ?_ | ((with_reducible show evIs _ (_ :: _) _ _); first | refine wQ ?_ | refine wF ?_ | refine wG ?_ | refine wT ?_ | refine wM ?_ | refine wS ?_ | refine wP ?_ | refine wJ ?_ | refine wX ?_ | refine wY ?_ | refine wZ ?_))
        clear hF
        repeat refine evDone ?_
        try (show AW _ _ _ _ _)
        repeat refine AW.seq ?_
        refine AW.condT (by simp []) (by simp []) ?_
        repeat refine AW.seq ?_
        refine AW.reg ?_
        have hF := True.intro
        repeat (first | refine wD1 ?_ | refine wD2 ?_ | refine wE1 ?_ | refine wE2 ?_ | (refine wE3 ?_; intro _) | (refine wE4 ?_; intro _) | refine wN ?_ | ((with_reducible show evIs _ (_ :: _) _ _); first | refine wQ ?_ | refine wF ?_ | refine wG ?_ | refine wT ?_ | refine wM ?_ | refine wS ?_ | refine wP ?_ | refine wJ ?_ | refine wX ?_ | refine wY ?_ | refine wZ ?_))
        clear hF
        repeat refine evDone ?_
        try (show AW _ _ _ _ _)
        refine AW.ret (retI rfl ?_)
        simp [hm, a14_res, resOk, resP, resV, ARes.op, R2s, R2, R1s, R1, closeOk, closeV]
      · have hne : ¬ (⟨b1, b2⟩ : Item) = ⟨a1, a2⟩ := by simpa using hc
        have hc2 : (b1 == a1 && b2 == a2) = false := by simpa using hc
        have hF := And.intro (hlt) (And.intro (he) (hc2))
        repeat (first | refine wD1 ?_ | refine wD2 ?_ | refine wE1 ?_ | refine wE2 ?_ | (refine wE3 ?_; intro _) | (refine wE4 ?_; intro _) | refine wN ?_ | ((with_reducible show evIs _ (_ :: _) _ _); first | refine wQ ?_ | refine wF ?_ | refine wG ?_ | refine wT ?_ | refine wM ?_ | refine wS ?_ | refine wP ?_ | refine wJ ?_ | refine wX ?_ | refine wY ?_ | refine wZ ?_))
        clear hF
        repeat refine evDone ?_
        try (show AW _ _ _ _ _)
        repeat refine AW.seq ?_
        refine AW.condF (by simp [hc2, hc]) (by simp [hc2, hc]) ?_
        refine AW.skip ?_
        show AW _ _ _ _ _
        refine AW.reg ?_
        have hw : IntKind.i64.wrap ((i : Int) + 1) = (i : Int) + 1 := i64_in _ ⟨by omega, by omega⟩
        have hF := hw
        repeat (first | refine wD1 ?_ | refine wD2 ?_ | refine wE1 ?_ | refine wE2 ?_ | (refine wE3 ?_; intro _) | (refine wE4 ?_; intro _) | refine wN ?_ | ((with_reducible show evIs _ (_ :: _) _ _); first | refine wQ ?_ | refine wF ?_ | refine wG ?_ | refine wT ?_ | refine wM ?_ | refine wS ?_ | refine wP ?_ | refine wJ ?_ | refine wX ?_ | refine wY ?_ | refine wZ ?_))
        clear hF
        repeat refine evDone ?_
        try (show AW _ _ _ _ _)
        refine ⟨i + 1, ⟨by omega, fun j hj z hz => ?_⟩, by omega, ?_⟩
        · rcases Nat.lt_succ_iff_lt_or_eq.1 hj with h | rfl
          · exact hno j h z hz
          · rw [hyy] at hz; injection hz with hz; rw [← hz]; exact hne
        refine Fit.mk _ _ _ (by simp [hw, conv2, newEmp, convs_refl, convs, conv]) (by simp [hw, heapFit, newEmp, conv2s, conv2, convs_refl, convs, conv]) (by intro q hq; first | (simp at hq; done) | (simp at hq; omega) | (simp at hq; simp; omega))
    · have hlt2 : ¬ (i : Int) < l.length := by omega
      have hn := has_no (l := l) (x := ⟨a1, a2⟩) (fun j hj => hno j (by omega))
      have hF := And.intro (hlt) (hlt2)
      repeat (first | refine wD1 ?_ | refine wD2 ?_ | refine wE1 ?_ | refine wE2 ?_ | (refine wE3 ?_; intro _) | (refine wE4 ?_; intro _) | refine wN ?_ | ((with_reducible show evIs _ (_ :: _) _ _); first | refine wQ ?_ | refine wF ?_ | refine wG ?_ | refine wT ?_ | refine wM ?_ | refine wS ?_ | refine wP ?_ | refine wJ ?_ | refine wX ?_ | refine wY ?_ | refine wZ ?_))
      clear hF
      repeat refine evDone ?_
      try (show AW _ _ _ _ _)
      repeat refine AW.seq ?_
      refine AW.condF (by simp []) (by simp []) ?_
      refine AW.exit ?_
      show AW _ _ _ _ _
      repeat refine AW.seq ?_
      refine AW.reg ?_
      have hF := True.intro
      repeat (first | refine wD1 ?_ | refine wD2 ?_ | refine wE1 ?_ | refine wE2 ?_ | (refine wE3 ?_; intro _) | (refine wE4 ?_; intro _) | refine wN ?_ | ((with_reducible show evIs _ (_ :: _) _ _); first | refine wQ ?_ | refine wF ?_ | refine wG ?_ | refine wT ?_ | refine wM ?_ | refine wS ?_ | refine wP ?_ | refine wJ ?_ | refine wX ?_ | refine wY ?_ | refine wZ ?_))
      clear hF
      repeat refine evDone ?_
      try (show AW _ _ _ _ _)
      refine AW.ret (retI (r := .bool (decide (Item.mk a1 a2 ∈ l))) rfl ?_)
      rw [hn]
      simp [a14_res, resOk, resP, resV, ARes.op, R2s, R2, R1s, R1, closeOk, closeV]
def fillF (xs : List Item) (l : List Item) : List Item := l.foldl (fun xs x => (addF xs x).1) xs
theorem addF_len (xs : List Item) (x : Item) : (addF xs x).1.length ≤ xs.length + 1 := by
  unfold addF
  split
  · simp
  · simp [upF_len]
theorem fillF_step (l : List Item) (i : Nat) (x : Item) (xs : List Item) (h : l[i]? = some x) : fillF xs (l.take (i + 1)) = (addF (fillF xs (l.take i)) x).1 := by
  simp [fillF, List.take_add_one, h]
theorem fillF_len (l : List Item) : ∀ (i : Nat) (xs : List Item), (fillF xs (l.take i)).length ≤ xs.length + i := by
  intro i
  induction i with
  | zero => intro xs; simp [fillF]
  | succ i ih =>
    intro xs
    cases h : l[i]? with
    | none =>
      have : l.take (i + 1) = l.take i := by simp [List.take_add_one, h]
      rw [this]; have := ih xs; omega
    | some x =>
      rw [fillF_step l i x xs h]
      have := addF_len (fillF xs (l.take i)) x
      have := ih xs
      omega
end Go.Proofs.Ytljahaeachdjmaa

set_option linter.unusedSimpArgs false
set_option linter.unusedVariables false
set_option maxHeartbeats 8000000
namespace Go.Proofs.Ytljahaeachdjmaa
open Go Go.Amb Go.IntWalk

theorem f11 (N B H : Nat) (hB : B < N) (hH : H < N) (hBH : B ≠ H) (xs l : List Item) (hl : xs.length + l.length < 8796093022208) :
    BCall Try.prog 11 (Qs B H xs) N [.ptr B 0 0, items l] (fun H1 n' v => ∃ H', (H' = H ∨ N ≤ H') ∧ H' < n' ∧ H' ≠ B ∧ H1 = Qs B H' (fillF xs l) ∧ v = .tup []) := by
  obtain ⟨H0, hH0⟩ : ∃ H0, H0 = Qs B H xs := ⟨_, rfl⟩
  have hkB : (mkH H0 B).isSome = true := by rw [hH0]; simp [Qs]
  have hkH : (mkH H0 H).isSome = true := by rw [hH0]; simp [Qs, show ¬ H = B by omega]
  rw [← hH0]
  simp only [items]
  refine bcall_coded a11_ok (by simp) ?_
  rw [show mkS (argT 0 [.ptr B 0 0, .sl .fro (l.map Item.av)]) H0 N = mkS [(0, .ptr B 0 0), (1, .sl .fro (l.map Item.av))] [(B, ⟨2, true, [.agg [.hdr H 0 xs.length, .bool true]]⟩), (H, ⟨2, false, xs.map Item.av⟩)] N by rw [hH0]; rfl]
  have hN0 : (B = H) = False ∧ (H = B) = False ∧ B < N ∧ H < N := ⟨eq_false (by omega), eq_false (by omega), hB, hH⟩
  rw [mkS_eq]
  repeat refine AW.seq ?_
  refine AW.reg ?_
  have hF := True.intro
  repeat (first | refine wD1 ?_ | refine wD2 ?_ | refine wE1 ?_ | refine wE2 ?_ | (refine wE3 ?_; intro _) | (refine wE4 ?_; intro _) | refine wN ?_ | ((with_reducible show evIs _ (_ :: _) _ _); first | refine wQ ?_ | refine wF ?_ | refine wG ?_ | refine wT ?_ | refine wM ?_ | refine wS ?_ | refine wP ?_ | refine wJ ?_ | refine wX ?_ | refine wY ?_ | refine wZ ?_))
  clear hF
  repeat refine evDone ?_
  try (show AW _ _ _ _ _)
  repeat refine AW.seq ?_
  refine AW.block ?_
  refine AW.loop (fun g : Nat × Nat × Nat => g.1 ≤ l.length ∧ (g.2.1 = H ∨ N ≤ g.2.1) ∧ g.2.1 < g.2.2 ∧ g.2.1 ≠ B ∧ N ≤ g.2.2) (fun g => mkS [(0, .ptr B 0 0), (6, .sl .fro (l.map Item.av)), (7, .int .i64 l.length), (8, .int .i64 g.1)] [(B, ⟨2, true, [.agg [.hdr g.2.1 0 (fillF xs (l.take g.1)).length, .bool true]]⟩), (g.2.1, ⟨2, false, (fillF xs (l.take g.1)).map Item.av⟩)] g.2.2) (fun g => l.length - g.1) (0, H, N) ⟨by simp, .inl rfl, hH, fun e => hBH e.symm, Nat.le_refl _⟩ ?_ ?_
  · refine Fit.mk _ _ _ (by simp [hN0, fillF, conv2, newEmp, convs_refl, convs, conv]) (by simp [hN0, fillF, heapFit, newEmp, conv2s, conv2, convs_refl, convs, conv]) (by intro q hq; first | (simp at hq; done) | (simp at hq; omega) | (simp at hq; simp; omega))
  rintro ⟨i, h, n⟩ ⟨hi, hh, hhn, hhB, hNn⟩
  dsimp only at hi hh hhn hhB hNn ⊢
  have hN : (B = h) = False ∧ (h = B) = False ∧ (∀ q, (B = n + q) = False) ∧ (∀ q, (n + q = B) = False) ∧ (∀ q, (h = n + q) = False) ∧ (∀ q, (n + q = h) = False) ∧ (∀ q, B < n + q) ∧ (∀ q, h < n + q) ∧ (∀ q, (n + q < n) = False) ∧ B < n ∧ h < n := by
    refine ⟨?_, ?_, ?_, ?_, ?_, ?_, ?_, ?_, ?_, ?_, ?_⟩ <;> first | exact eq_false (by omega) | exact fun q => eq_false (by omega) | exact fun q => by omega | omega
  repeat refine AW.seq ?_
  refine AW.reg ?_
  by_cases hlt : i < l.length
  · have hF := And.intro (hlt) (hN)
    repeat (first | refine wD1 ?_ | refine wD2 ?_ | refine wE1 ?_ | refine wE2 ?_ | (refine wE3 ?_; intro _) | (refine wE4 ?_; intro _) | refine wN ?_ | ((with_reducible show evIs _ (_ :: _) _ _); first | refine wQ ?_ | refine wF ?_ | refine wG ?_ | refine wT ?_ | refine wM ?_ | refine wS ?_ | refine wP ?_ | refine wJ ?_ | refine wX ?_ | refine wY ?_ | refine wZ ?_))
    clear hF
    repeat refine evDone ?_
    try (show AW _ _ _ _ _)
    repeat refine AW.seq ?_
    refine AW.condT (by simp []) (by simp []) ?_
    refine AW.skip ?_
    show AW _ _ _ _ _
    refine AW.seq (AW.block ?_)
    obtain ⟨x, hx⟩ : ∃ x, l[i]? = some x := ⟨_, List.getElem?_eq_getElem hlt⟩
    have he := elem_map (f := Item.av) hx
    have hst := fillF_step l i x xs hx
    have hfl := fillF_len l i xs
    have h17 := f17 (n + 200) B h (by omega) (by omega) (fun e => hhB e.symm) (fillF xs (l.take i)) x (by omega)
    rw [← hst] at h17
    have hrr := (addF (fillF xs (l.take i)) x).2
    generalize (addF (fillF xs (l.take i)) x).2 = rr at *
    generalize hzs : fillF xs (l.take (i + 1)) = zs at *
    generalize fillF xs (l.take i) = ys at *
    obtain ⟨x1, x2⟩ := x
    simp only [Qs, box, Item.av] at h17 he
    repeat refine AW.seq ?_
    refine AW.reg ?_
    have hF := And.intro (hlt) (And.intro (he) (hN))
    repeat (first | refine wD1 ?_ | refine wD2 ?_ | refine wE1 ?_ | refine wE2 ?_ | (refine wE3 ?_; intro _) | (refine wE4 ?_; intro _) | refine wN ?_ | ((with_reducible show evIs _ (_ :: _) _ _); first | refine wQ ?_ | refine wF ?_ | refine wG ?_ | refine wT ?_ | refine wM ?_ | refine wS ?_ | refine wP ?_ | refine wJ ?_ | refine wX ?_ | refine wY ?_ | refine wZ ?_))
    clear hF
    repeat refine evDone ?_
    try (show AW _ _ _ _ _)
    repeat refine AW.seq ?_
    refine AW.reg ?_
    have hF := hN
    repeat (first | refine wD1 ?_ | refine wD2 ?_ | refine wE1 ?_ | refine wE2 ?_ | (refine wE3 ?_; intro _) | (refine wE4 ?_; intro _) | refine wN ?_ | ((with_reducible show evIs _ (_ :: _) _ _); first | refine wQ ?_ | refine wF ?_ | refine wG ?_ | refine wT ?_ | refine wM ?_ | refine wS ?_ | refine wP ?_ | refine wJ ?_ | refine wX ?_ | refine wY ?_ | refine wZ ?_))
    clear hF
    repeat refine evDone ?_
    try (show AW _ _ _ _ _)
    have hF := hN
    refine wL (hA := h17) ?_
    clear hF
    rintro H1 n' v ⟨h', hh', hhn', hhB', rfl, rfl, rfl⟩
    have hM : (B = h') = False ∧ (h' = B) = False ∧ h' < n + 1300 ∧ B < n + 1300 := ⟨eq_false (fun e => hhB' e.symm), eq_false hhB', by omega, by omega⟩
    have hF := And.intro (hM) (hN)
    repeat (first | refine wD1 ?_ | refine wD2 ?_ | refine wE1 ?_ | refine wE2 ?_ | (refine wE3 ?_; intro _) | (refine wE4 ?_; intro _) | refine wN ?_ | ((with_reducible show evIs _ (_ :: _) _ _); first | refine wQ ?_ | refine wF ?_ | refine wG ?_ | refine wT ?_ | refine wM ?_ | refine wS ?_ | refine wP ?_ | refine wJ ?_ | refine wX ?_ | refine wY ?_ | refine wZ ?_))
    clear hF
    repeat refine evDone ?_
    try (show AW _ _ _ _ _)
    refine AW.reg ?_
    have hw : IntKind.i64.wrap ((i : Int) + 1) = (i : Int) + 1 := i64_in _ ⟨by omega, by omega⟩
    have hF := hw
    repeat (first | refine wD1 ?_ | refine wD2 ?_ | refine wE1 ?_ | refine wE2 ?_ | (refine wE3 ?_; intro _) | (refine wE4 ?_; intro _) | refine wN ?_ | ((with_reducible show evIs _ (_ :: _) _ _); first | refine wQ ?_ | refine wF ?_ | refine wG ?_ | refine wT ?_ | refine wM ?_ | refine wS ?_ | refine wP ?_ | refine wJ ?_ | refine wX ?_ | refine wY ?_ | refine wZ ?_))
    clear hF
    repeat refine evDone ?_
    try (show AW _ _ _ _ _)
    refine ⟨(i + 1, h', n + 1300), ⟨by dsimp only; omega, by dsimp only; omega, by dsimp only; omega, hhB', by dsimp only; omega⟩, by dsimp only; omega, ?_⟩
    dsimp only
    rw [hzs]
    refine Fit.mk _ _ _ (by simp [hw, hM, hN, Qs, box, conv2, newEmp, convs_refl, convs, conv]) (by simp [hw, hM, hN, Qs, box, heapFit, newEmp, conv2s, conv2, convs_refl, convs, conv]) (by intro q hq; first | (simp at hq; done) | (simp at hq; omega) | (simp at hq; simp; omega))
  · have hlt2 : ¬ (i : Int) < l.length := by omega
    have hii : i = l.length := by omega
    have hfull : l.take i = l := by rw [hii]; exact List.take_length
    rw [hfull]
    generalize fillF xs l = ys
    have hF := And.intro (hlt) (And.intro (hlt2) (hN))
    repeat (first | refine wD1 ?_ | refine wD2 ?_ | refine wE1 ?_ | refine wE2 ?_ | (refine wE3 ?_; intro _) | (refine wE4 ?_; intro _) | refine wN ?_ | ((with_reducible show evIs _ (_ :: _) _ _); first | refine wQ ?_ | refine wF ?_ | refine wG ?_ | refine wT ?_ | refine wM ?_ | refine wS ?_ | refine wP ?_ | refine wJ ?_ | refine wX ?_ | refine wY ?_ | refine wZ ?_))
    clear hF
    repeat refine evDone ?_
    try (show AW _ _ _ _ _)
    repeat refine AW.seq ?_
    refine AW.condF (by simp []) (by simp []) ?_
    refine AW.exit ?_
    refine ⟨by simp [resP, a11_res, ARes.op], [(B, ⟨2, true, [.agg [.hdr h 0 ys.length, .bool true]]⟩), (h, ⟨2, false, ys.map Item.av⟩)], n + 100, [], ⟨h, hh, by omega, hhB, rfl, rfl⟩, by omega, ?_, rfl, by simp, ?_⟩
    · intro p hp
      simp at hp
      rcases hp with rfl | rfl
      · left; exact hkB
      · rcases hh with rfl | hh
        · left; exact hkH
        · right; exact hh
    simp only [resV, a11_res, List.map_nil]
    refine Fit.mk _ _ _ (by simp [hN, conv2, newEmp, convs_refl, convs, conv]) (by simp [hN, heapFit, newEmp, conv2s, conv2, convs_refl, convs, conv]) (by intro q hq; first | (simp at hq; done) | (simp at hq; omega) | (simp at hq; simp; omega))
end Go.Proofs.Ytljahaeachdjmaa

set_option linter.unusedSimpArgs false
set_option linter.unusedVariables false
set_option maxHeartbeats 8000000
set_option maxRecDepth 100000
namespace Go.Proofs.Ytljahaeachdjmaa
open Go Go.Amb Go.IntWalk

theorem works : ACall Try.prog 9 [] (· = .bool true) := by
  have h0 : BCall Try.prog 10 [] 100 [] (fun H1 n' v => H1 = [(102, ⟨2, true, [.agg [.hdr 600 0 0, .bool true]]⟩), (600, ⟨2, false, []⟩)] ∧ n' = 1100 ∧ v = .ptr 102 0 0) := f10 100
  refine a9_of (by simp) ?_
  repeat refine AW.seq ?_
  refine AW.reg ?_
  have hF := True.intro
  repeat (first | refine wD1 ?_ | refine wD2 ?_ | refine wE1 ?_ | refine wE2 ?_ | (refine wE3 ?_; intro _) | (refine wE4 ?_; intro _) | refine wN ?_ | ((with_reducible show evIs _ (_ :: _) _ _); first | refine wQ ?_ | refine wF ?_ | refine wG ?_ | refine wT ?_ | refine wM ?_ | refine wS ?_ | refine wP ?_ | refine wJ ?_ | refine wX ?_ | refine wY ?_ | refine wZ ?_))
  clear hF
  repeat refine evDone ?_
  try (show AW _ _ _ _ _)
  repeat refine AW.seq ?_
  refine AW.reg ?_
  have hF := True.intro
  repeat (first | refine wD1 ?_ | refine wD2 ?_ | refine wE1 ?_ | refine wE2 ?_ | (refine wE3 ?_; intro _) | (refine wE4 ?_; intro _) | refine wN ?_ | ((with_reducible show evIs _ (_ :: _) _ _); first | refine wQ ?_ | refine wF ?_ | refine wG ?_ | refine wT ?_ | refine wM ?_ | refine wS ?_ | refine wP ?_ | refine wJ ?_ | refine wX ?_ | refine wY ?_ | refine wZ ?_))
  clear hF
  repeat refine evDone ?_
  try (show AW _ _ _ _ _)
  have hF := True.intro
  refine wL (hA := h0) ?_
  clear hF
  rintro _ _ _ ⟨rfl, rfl, rfl⟩
  have hF := True.intro
  repeat (first | refine wD1 ?_ | refine wD2 ?_ | refine wE1 ?_ | refine wE2 ?_ | (refine wE3 ?_; intro _) | (refine wE4 ?_; intro _) | refine wN ?_ | ((with_reducible show evIs _ (_ :: _) _ _); first | refine wQ ?_ | refine wF ?_ | refine wG ?_ | refine wT ?_ | refine wM ?_ | refine wS ?_ | refine wP ?_ | refine wJ ?_ | refine wX ?_ | refine wY ?_ | refine wZ ?_))
  clear hF
  repeat refine evDone ?_
  try (show AW _ _ _ _ _)
  obtain ⟨H0, hH0⟩ : ∃ H0, H0 = 600 := ⟨_, rfl⟩
  rw [show (600 : Nat) = H0 from hH0.symm]
  have hM0 : (102 = H0) = False ∧ (H0 = 102) = False ∧ (∀ c, c < 100 → (c = H0) = False) ∧ (∀ c, c < 100 → (H0 = c) = False) := ⟨eq_false (by omega), eq_false (by omega), fun c hc => eq_false (by omega), fun c hc => eq_false (by omega)⟩
  repeat refine AW.seq ?_
  refine AW.reg ?_
  have hF := hM0
  repeat (first | refine wD1 ?_ | refine wD2 ?_ | refine wE1 ?_ | refine wE2 ?_ | (refine wE3 ?_; intro _) | (refine wE4 ?_; intro _) | refine wN ?_ | ((with_reducible show evIs _ (_ :: _) _ _); first | refine wQ ?_ | refine wF ?_ | refine wG ?_ | refine wT ?_ | refine wM ?_ | refine wS ?_ | refine wP ?_ | refine wJ ?_ | refine wX ?_ | refine wY ?_ | refine wZ ?_))
  clear hF
  repeat refine evDone ?_
  try (show AW _ _ _ _ _)
  repeat refine AW.seq ?_
  refine AW.condF (by simp []) (by simp []) ?_
  refine AW.skip ?_
  show AW _ _ _ _ _
  have h1 := f17 2200 102 H0 (by omega) (by omega) (by omega) [] ⟨5, 1⟩ (by decide)
  rw [show addF [] ⟨5, 1⟩ = ([⟨5, 1⟩], 0) from rfl] at h1
  simp only [Qs, box, Item.av, List.map_cons, List.map_nil, List.length_cons, List.length_nil, Nat.zero_add] at h1
  repeat refine AW.seq ?_
  refine AW.reg ?_
  have hF := hM0
  repeat (first | refine wD1 ?_ | refine wD2 ?_ | refine wE1 ?_ | refine wE2 ?_ | (refine wE3 ?_; intro _) | (refine wE4 ?_; intro _) | refine wN ?_ | ((with_reducible show evIs _ (_ :: _) _ _); first | refine wQ ?_ | refine wF ?_ | refine wG ?_ | refine wT ?_ | refine wM ?_ | refine wS ?_ | refine wP ?_ | refine wJ ?_ | refine wX ?_ | refine wY ?_ | refine wZ ?_))
  clear hF
  repeat refine evDone ?_
  try (show AW _ _ _ _ _)
  have hF := hM0
  refine wL (hA := h1) ?_
  clear hF
  rintro H1 n' v ⟨H1, hh1, hl1, hb1, rfl, rfl, rfl⟩
  have hM1 : (102 = H1) = False ∧ (H1 = 102) = False ∧ (∀ c, c < 100 → (c = H1) = False) ∧ (∀ c, c < 100 → (H1 = c) = False) := ⟨eq_false (by omega), eq_false (by omega), fun c hc => eq_false (by omega), fun c hc => eq_false (by omega)⟩
  try simp only [Qs, box, Item.av, List.map_cons, List.map_nil, List.length_cons, List.length_nil, Nat.zero_add]
  have hF := hM1
  repeat (first | refine wD1 ?_ | refine wD2 ?_ | refine wE1 ?_ | refine wE2 ?_ | (refine wE3 ?_; intro _) | (refine wE4 ?_; intro _) | refine wN ?_ | ((with_reducible show evIs _ (_ :: _) _ _); first | refine wQ ?_ | refine wF ?_ | refine wG ?_ | refine wT ?_ | refine wM ?_ | refine wS ?_ | refine wP ?_ | refine wJ ?_ | refine wX ?_ | refine wY ?_ | refine wZ ?_))
  clear hF
  repeat refine evDone ?_
  try (show AW _ _ _ _ _)
  have h2 := f17 4200 102 H1 (by omega) (by omega) (by omega) [⟨5, 1⟩] ⟨3, 2⟩ (by decide)
  rw [show addF [⟨5, 1⟩] ⟨3, 2⟩ = ([⟨3, 2⟩, ⟨5, 1⟩], 0) from rfl] at h2
  simp only [Qs, box, Item.av, List.map_cons, List.map_nil, List.length_cons, List.length_nil, Nat.zero_add] at h2
  repeat refine AW.seq ?_
  refine AW.reg ?_
  have hF := hM1
  repeat (first | refine wD1 ?_ | refine wD2 ?_ | refine wE1 ?_ | refine wE2 ?_ | (refine wE3 ?_; intro _) | (refine wE4 ?_; intro _) | refine wN ?_ | ((with_reducible show evIs _ (_ :: _) _ _); first | refine wQ ?_ | refine wF ?_ | refine wG ?_ | refine wT ?_ | refine wM ?_ | refine wS ?_ | refine wP ?_ | refine wJ ?_ | refine wX ?_ | refine wY ?_ | refine wZ ?_))
  clear hF
  repeat refine evDone ?_
  try (show AW _ _ _ _ _)
  have hF := hM1
  refine wL (hA := h2) ?_
  clear hF
  rintro H1 n' v ⟨H2, hh2, hl2, hb2, rfl, rfl, rfl⟩
  have hM2 : (102 = H2) = False ∧ (H2 = 102) = False ∧ (∀ c, c < 100 → (c = H2) = False) ∧ (∀ c, c < 100 → (H2 = c) = False) := ⟨eq_false (by omega), eq_false (by omega), fun c hc => eq_false (by omega), fun c hc => eq_false (by omega)⟩
  try simp only [Qs, box, Item.av, List.map_cons, List.map_nil, List.length_cons, List.length_nil, Nat.zero_add]
  have hF := hM2
  repeat (first | refine wD1 ?_ | refine wD2 ?_ | refine wE1 ?_ | refine wE2 ?_ | (refine wE3 ?_; intro _) | (refine wE4 ?_; intro _) | refine wN ?_ | ((with_reducible show evIs _ (_ :: _) _ _); first | refine wQ ?_ | refine wF ?_ | refine wG ?_ | refine wT ?_ | refine wM ?_ | refine wS ?_ | refine wP ?_ | refine wJ ?_ | refine wX ?_ | refine wY ?_ | refine wZ ?_))
  clear hF
  repeat refine evDone ?_
  try (show AW _ _ _ _ _)
  have h3 := f17 6200 102 H2 (by omega) (by omega) (by omega) [⟨3, 2⟩, ⟨5, 1⟩] ⟨5, 0⟩ (by decide)
  rw [show addF [⟨3, 2⟩, ⟨5, 1⟩] ⟨5, 0⟩ = ([⟨3, 2⟩, ⟨5, 1⟩, ⟨5, 0⟩], 0) from rfl] at h3
  simp only [Qs, box, Item.av, List.map_cons, List.map_nil, List.length_cons, List.length_nil, Nat.zero_add] at h3
  repeat refine AW.seq ?_
  refine AW.reg ?_
  have hF := hM2
  repeat (first | refine wD1 ?_ | refine wD2 ?_ | refine wE1 ?_ | refine wE2 ?_ | (refine wE3 ?_; intro _) | (refine wE4 ?_; intro _) | refine wN ?_ | ((with_reducible show evIs _ (_ :: _) _ _); first | refine wQ ?_ | refine wF ?_ | refine wG ?_ | refine wT ?_ | refine wM ?_ | refine wS ?_ | refine wP ?_ | refine wJ ?_ | refine wX ?_ | refine wY ?_ | refine wZ ?_))
  clear hF
  repeat refine evDone ?_
  try (show AW _ _ _ _ _)
  have hF := hM2
  refine wL (hA := h3) ?_
  clear hF
  rintro H1 n' v ⟨H3, hh3, hl3, hb3, rfl, rfl, rfl⟩
  have hM3 : (102 = H3) = False ∧ (H3 = 102) = False ∧ (∀ c, c < 100 → (c = H3) = False) ∧ (∀ c, c < 100 → (H3 = c) = False) := ⟨eq_false (by omega), eq_false (by omega), fun c hc => eq_false (by omega), fun c hc => eq_false (by omega)⟩
  try simp only [Qs, box, Item.av, List.map_cons, List.map_nil, List.length_cons, List.length_nil, Nat.zero_add]
  have hF := hM3
  repeat (first | refine wD1 ?_ | refine wD2 ?_ | refine wE1 ?_ | refine wE2 ?_ | (refine wE3 ?_; intro _) | (refine wE4 ?_; intro _) | refine wN ?_ | ((with_reducible show evIs _ (_ :: _) _ _); first | refine wQ ?_ | refine wF ?_ | refine wG ?_ | refine wT ?_ | refine wM ?_ | refine wS ?_ | refine wP ?_ | refine wJ ?_ | refine wX ?_ | refine wY ?_ | refine wZ ?_))
  clear hF
  repeat refine evDone ?_
  try (show AW _ _ _ _ _)
  have h4 := f17 8200 102 H3 (by omega) (by omega) (by omega) [⟨3, 2⟩, ⟨5, 1⟩, ⟨5, 0⟩] ⟨9, 1⟩ (by decide)
  rw [show addF [⟨3, 2⟩, ⟨5, 1⟩, ⟨5, 0⟩] ⟨9, 1⟩ = ([⟨3, 2⟩, ⟨5, 1⟩, ⟨5, 0⟩], 9) from rfl] at h4
  simp only [Qs, box, Item.av, List.map_cons, List.map_nil, List.length_cons, List.length_nil, Nat.zero_add] at h4
  repeat refine AW.seq ?_
  refine AW.reg ?_
  have hF := hM3
  repeat (first | refine wD1 ?_ | refine wD2 ?_ | refine wE1 ?_ | refine wE2 ?_ | (refine wE3 ?_; intro _) | (refine wE4 ?_; intro _) | refine wN ?_ | ((with_reducible show evIs _ (_ :: _) _ _); first | refine wQ ?_ | refine wF ?_ | refine wG ?_ | refine wT ?_ | refine wM ?_ | refine wS ?_ | refine wP ?_ | refine wJ ?_ | refine wX ?_ | refine wY ?_ | refine wZ ?_))
  clear hF
  repeat refine evDone ?_
  try (show AW _ _ _ _ _)
  have hF := hM3
  refine wL (hA := h4) ?_
  clear hF
  rintro H1 n' v ⟨H4, hh4, hl4, hb4, rfl, rfl, rfl⟩
  have hM4 : (102 = H4) = False ∧ (H4 = 102) = False ∧ (∀ c, c < 100 → (c = H4) = False) ∧ (∀ c, c < 100 → (H4 = c) = False) := ⟨eq_false (by omega), eq_false (by omega), fun c hc => eq_false (by omega), fun c hc => eq_false (by omega)⟩
  try simp only [Qs, box, Item.av, List.map_cons, List.map_nil, List.length_cons, List.length_nil, Nat.zero_add]
  have hF := hM4
  repeat (first | refine wD1 ?_ | refine wD2 ?_ | refine wE1 ?_ | refine wE2 ?_ | (refine wE3 ?_; intro _) | (refine wE4 ?_; intro _) | refine wN ?_ | ((with_reducible show evIs _ (_ :: _) _ _); first | refine wQ ?_ | refine wF ?_ | refine wG ?_ | refine wT ?_ | refine wM ?_ | refine wS ?_ | refine wP ?_ | refine wJ ?_ | refine wX ?_ | refine wY ?_ | refine wZ ?_))
  clear hF
  repeat refine evDone ?_
  try (show AW _ _ _ _ _)
  have h5 := f13 12000 102 H4 (by omega) (by omega) (by omega) [⟨3, 2⟩, ⟨5, 1⟩, ⟨5, 0⟩] 4 (by decide)
  rw [show popF (([⟨3, 2⟩, ⟨5, 1⟩, ⟨5, 0⟩] : List Item).length + 1) [⟨3, 2⟩, ⟨5, 1⟩, ⟨5, 0⟩] 4 = ([⟨3, 2⟩], [⟨5, 0⟩, ⟨5, 1⟩]) from rfl] at h5
  simp only [Qs, box, Item.av, List.map_cons, List.map_nil, List.length_cons, List.length_nil, Nat.zero_add] at h5
  repeat refine AW.seq ?_
  refine AW.reg ?_
  have hF := hM4
  repeat (first | refine wD1 ?_ | refine wD2 ?_ | refine wE1 ?_ | refine wE2 ?_ | (refine wE3 ?_; intro _) | (refine wE4 ?_; intro _) | refine wN ?_ | ((with_reducible show evIs _ (_ :: _) _ _); first | refine wQ ?_ | refine wF ?_ | refine wG ?_ | refine wT ?_ | refine wM ?_ | refine wS ?_ | refine wP ?_ | refine wJ ?_ | refine wX ?_ | refine wY ?_ | refine wZ ?_))
  clear hF
  repeat refine evDone ?_
  try (show AW _ _ _ _ _)
  have hF := hM4
  refine wL (hA := h5) ?_
  clear hF
  rintro H1 n' v ⟨r, hr1, hr2, rfl, rfl⟩
  have hM5 : (102 = r) = False ∧ (r = 102) = False ∧ (H4 = r) = False ∧ (r = H4) = False ∧ (∀ c, c < 100 → (c = r) = False) ∧ (∀ c, c < 100 → (r = c) = False) := ⟨eq_false (by omega), eq_false (by omega), eq_false (by omega), eq_false (by omega), fun c hc => eq_false (by omega), fun c hc => eq_false (by omega)⟩
  have hma : (∀ (fh fq : Nat → Nat → Nat → AV) (cs : List AV), mapA fh fq (.agg cs) = .agg (cs.map (mapA fh fq))) ∧ (∀ (fh fq : Nat → Nat → Nat → AV) (r o n : Nat), mapA fh fq (.hdr r o n) = fh r o n) ∧ (∀ (fh fq : Nat → Nat → Nat → AV) (b : Bool), mapA fh fq (.bool b) = .bool b) := by
    refine ⟨?_, ?_, ?_⟩ <;> intros <;> simp [mapA, mapAs_eq]
  have h6 := f22 ⟨5, 0⟩ [⟨5, 1⟩]
  have h7 := f15 [⟨5, 0⟩, ⟨5, 1⟩]
  have h8 := f12 (n' + 20000) 102 H4 (by omega) (by omega) (by omega) [⟨5, 0⟩, ⟨5, 1⟩] 1 (by decide)
  have h9 := f12 (n' + 30000) 102 H4 (by omega) (by omega) (by omega) [⟨5, 0⟩] 1 (by decide)
  rw [show cancelF [⟨5, 0⟩, ⟨5, 1⟩] 1 = ([⟨5, 0⟩], true) from rfl] at h8
  rw [show cancelF [⟨5, 0⟩] 1 = ([⟨5, 0⟩], false) from rfl] at h9
  simp only [qv, items, Qs, box, Item.av, List.map_cons, List.map_nil, List.length_cons, List.length_nil, Nat.zero_add] at h6 h7 h8 h9
  have hF := And.intro (hM5) (hM4)
  repeat (first | refine wD1 ?_ | refine wD2 ?_ | refine wE1 ?_ | refine wE2 ?_ | (refine wE3 ?_; intro _) | (refine wE4 ?_; intro _) | refine wN ?_ | ((with_reducible show evIs _ (_ :: _) _ _); first | refine wQ ?_ | refine wF ?_ | refine wG ?_ | refine wT ?_ | refine wM ?_ | refine wS ?_ | refine wP ?_ | refine wJ ?_ | refine wX ?_ | refine wY ?_ | refine wZ ?_))
  clear hF
  repeat refine evDone ?_
  try (show AW _ _ _ _ _)
  repeat refine AW.seq ?_
  refine AW.reg ?_
  have hF := And.intro (hM5) (hM4)
  repeat (first | refine wD1 ?_ | refine wD2 ?_ | refine wE1 ?_ | refine wE2 ?_ | (refine wE3 ?_; intro _) | (refine wE4 ?_; intro _) | refine wN ?_ | ((with_reducible show evIs _ (_ :: _) _ _); first | refine wQ ?_ | refine wF ?_ | refine wG ?_ | refine wT ?_ | refine wM ?_ | refine wS ?_ | refine wP ?_ | refine wJ ?_ | refine wX ?_ | refine wY ?_ | refine wZ ?_))
  clear hF
  repeat refine evDone ?_
  try (show AW _ _ _ _ _)
  have hF := And.intro (hma) (And.intro (hM5) (hM4))
  refine wC (hA := h6) ?_
  clear hF
  have hF := And.intro (hM5) (hM4)
  repeat (first | refine wD1 ?_ | refine wD2 ?_ | refine wE1 ?_ | refine wE2 ?_ | (refine wE3 ?_; intro _) | (refine wE4 ?_; intro _) | refine wN ?_ | ((with_reducible show evIs _ (_ :: _) _ _); first | refine wQ ?_ | refine wF ?_ | refine wG ?_ | refine wT ?_ | refine wM ?_ | refine wS ?_ | refine wP ?_ | refine wJ ?_ | refine wX ?_ | refine wY ?_ | refine wZ ?_))
  clear hF
  repeat refine evDone ?_
  try (show AW _ _ _ _ _)
  repeat refine AW.seq ?_
  refine AW.reg ?_
  have hF := And.intro (hM5) (hM4)
  repeat (first | refine wD1 ?_ | refine wD2 ?_ | refine wE1 ?_ | refine wE2 ?_ | (refine wE3 ?_; intro _) | (refine wE4 ?_; intro _) | refine wN ?_ | ((with_reducible show evIs _ (_ :: _) _ _); first | refine wQ ?_ | refine wF ?_ | refine wG ?_ | refine wT ?_ | refine wM ?_ | refine wS ?_ | refine wP ?_ | refine wJ ?_ | refine wX ?_ | refine wY ?_ | refine wZ ?_))
  clear hF
  repeat refine evDone ?_
  try (show AW _ _ _ _ _)
  have hF := And.intro (hma) (And.intro (hM5) (hM4))
  refine wC (hA := h7) ?_
  clear hF
  have hF := And.intro (hM5) (hM4)
  repeat (first | refine wD1 ?_ | refine wD2 ?_ | refine wE1 ?_ | refine wE2 ?_ | (refine wE3 ?_; intro _) | (refine wE4 ?_; intro _) | refine wN ?_ | ((with_reducible show evIs _ (_ :: _) _ _); first | refine wQ ?_ | refine wF ?_ | refine wG ?_ | refine wT ?_ | refine wM ?_ | refine wS ?_ | refine wP ?_ | refine wJ ?_ | refine wX ?_ | refine wY ?_ | refine wZ ?_))
  clear hF
  repeat refine evDone ?_
  try (show AW _ _ _ _ _)
  have hF := And.intro (hM5) (hM4)
  refine wL (hA := h8) ?_
  clear hF
  rintro _ _ _ ⟨rfl, rfl, rfl⟩
  have hF := And.intro (hM5) (hM4)
  repeat (first | refine wD1 ?_ | refine wD2 ?_ | refine wE1 ?_ | refine wE2 ?_ | (refine wE3 ?_; intro _) | (refine wE4 ?_; intro _) | refine wN ?_ | ((with_reducible show evIs _ (_ :: _) _ _); first | refine wQ ?_ | refine wF ?_ | refine wG ?_ | refine wT ?_ | refine wM ?_ | refine wS ?_ | refine wP ?_ | refine wJ ?_ | refine wX ?_ | refine wY ?_ | refine wZ ?_))
  clear hF
  repeat refine evDone ?_
  try (show AW _ _ _ _ _)
  have hF := And.intro (hM5) (hM4)
  refine wL (hA := h9) ?_
  clear hF
  rintro _ _ _ ⟨rfl, rfl, rfl⟩
  have hF := And.intro (hM5) (hM4)
  repeat (first | refine wD1 ?_ | refine wD2 ?_ | refine wE1 ?_ | refine wE2 ?_ | (refine wE3 ?_; intro _) | (refine wE4 ?_; intro _) | refine wN ?_ | ((with_reducible show evIs _ (_ :: _) _ _); first | refine wQ ?_ | refine wF ?_ | refine wG ?_ | refine wT ?_ | refine wM ?_ | refine wS ?_ | refine wP ?_ | refine wJ ?_ | refine wX ?_ | refine wY ?_ | refine wZ ?_))
  clear hF
  repeat refine evDone ?_
  try (show AW _ _ _ _ _)
  refine AW.ret (retI rfl ?_)
  simp [hM5, hM4, a9_res, resOk, resP, resV, ARes.op, R2s, R2, R1s, R1, closeOk, closeV]
end Go.Proofs.Ytljahaeachdjmaa

set_option linter.unusedSimpArgs false
set_option linter.unusedVariables false
set_option maxHeartbeats 8000000
namespace Go.Proofs.Ytljahaeachdjmaa
open Go Go.Amb Go.IntWalk

def Dist (l : List Item) (n : Nat) : Prop := ∀ a b, b < a → a < n → ∀ x y, l[a]? = some x → l[b]? = some y → ¬ x.id = y.id
theorem f8 (l : List Item) (hl : l.length ≤ 8796093022208) : ACall Try.prog 8 [items l] (fun r => ∃ b, r = .bool b ∧ (b = true → Dist l l.length)) := by
  simp only [items]
  refine a8_of (by simp) ?_
  repeat refine AW.seq ?_
  refine AW.reg ?_
  have hF := True.intro
  repeat (first | refine wD1 ?_ | refine wD2 ?_ | refine wE1 ?_ | refine wE2 ?_ | (refine wE3 ?_; intro _) | (refine wE4 ?_; intro _) | refine wN ?_ | ((with_reducible show evIs _ (_ :: _) _ _); first | refine wQ ?_ | refine wF ?_ | refine wG ?_ | refine wT ?_ | refine wM ?_ | refine wS ?_ | refine wP ?_ | refine wJ ?_ | refine wX ?_ | refine wY ?_ | refine wZ ?_))
  clear hF
  repeat refine evDone ?_
  try (show AW _ _ _ _ _)
  repeat refine AW.seq ?_
  refine AW.reg ?_
  have hF := True.intro
  repeat (first | refine wD1 ?_ | refine wD2 ?_ | refine wE1 ?_ | refine wE2 ?_ | (refine wE3 ?_; intro _) | (refine wE4 ?_; intro _) | refine wN ?_ | ((with_reducible show evIs _ (_ :: _) _ _); first | refine wQ ?_ | refine wF ?_ | refine wG ?_ | refine wT ?_ | refine wM ?_ | refine wS ?_ | refine wP ?_ | refine wJ ?_ | refine wX ?_ | refine wY ?_ | refine wZ ?_))
  clear hF
  repeat refine evDone ?_
  try (show AW _ _ _ _ _)
  repeat refine AW.seq ?_
  refine AW.block ?_
  refine AW.loop (fun g : Nat × Nat => g.1 ≤ l.length ∧ 0 ≤ g.2 ∧ (Dist l g.1)) (fun g => mkS [(0, .sl .fro (l.map Item.av)), (7, .sl .fro (l.map Item.av)), (8, .int .i64 l.length), (9, .int .i64 g.1)] [] g.2) (fun g => l.length - g.1) (0, 10) ⟨by simp, by simp, fun a b h1 h2 => absurd h2 (by simp)⟩ ?_ ?_
  · refine Fit.mk _ _ _ (by simp [hl, conv2, newEmp, convs_refl, convs, conv]) (by simp [hl, heapFit, newEmp, conv2s, conv2, convs_refl, convs, conv]) (by intro q hq; first | (simp at hq; done) | (simp at hq; omega) | (simp at hq; simp; omega))
  · rintro ⟨i0, n⟩ ⟨hi0, hn, hno⟩
    dsimp only at hi0 hn hno ⊢
    have hnl : ∀ k, (n + k < n) = False := fun k => eq_false (by omega)

    repeat refine AW.seq ?_
    refine AW.reg ?_
    by_cases hlti0 : i0 < l.length
    · have hF := hlti0
      repeat (first | refine wD1 ?_ | refine wD2 ?_ | refine wE1 ?_ | refine wE2 ?_ | (refine wE3 ?_; intro _) | (refine wE4 ?_; intro _) | refine wN ?_ | ((with_reducible show evIs _ (_ :: _) _ _); first | refine wQ ?_ | refine wF ?_ | refine wG ?_ | refine wT ?_ | refine wM ?_ | refine wS ?_ | refine wP ?_ | refine wJ ?_ | refine wX ?_ | refine wY ?_ | refine wZ ?_))
      clear hF
      repeat refine evDone ?_
      try (show AW _ _ _ _ _)
      repeat refine AW.seq ?_
      refine AW.condT (by simp []) (by simp []) ?_
      refine AW.skip ?_
      show AW _ _ _ _ _
      refine AW.seq (AW.block ?_)
      obtain ⟨x, hx⟩ : ∃ x, l[i0]? = some x := ⟨_, List.getElem?_eq_getElem hlti0⟩
      have hxx := hx
      have he := elem_map (f := Item.av) hx
      obtain ⟨x1, x2⟩ := x
      simp only [Item.av] at he
      have hno0 := hno
      obtain ⟨l', hl'⟩ : ∃ l', l' = l.take i0 := ⟨_, rfl⟩
      have hll : l'.length = i0 := by rw [hl']; simp; omega
      have htk : (l.map Item.av).take i0 = l'.map Item.av := by rw [hl', List.map_take]
      have h1 : (0 : Int) ≤ i0 := by omega
      have h2 : (i0 : Int) ≤ l.length := by omega
      have h3 : i0 ≤ l.length := by omega
      have hcc : ∀ v ∈ l.map Item.av, (cellsOf v).length = 2 := by
        intro v hv; obtain ⟨y, _, rfl⟩ := List.mem_map.1 hv; simp
      generalize hls : l.map Item.av = ls at *
      have hlen : ls.length = l.length := by rw [← hls]; simp
      repeat refine AW.seq ?_
      refine AW.reg ?_
      have hF := And.intro (hlti0) (And.intro (he) (And.intro (hlen) (hnl)))
      repeat (first | refine wD1 ?_ | refine wD2 ?_ | refine wE1 ?_ | refine wE2 ?_ | (refine wE3 ?_; intro _) | (refine wE4 ?_; intro _) | refine wN ?_ | ((with_reducible show evIs _ (_ :: _) _ _); first | refine wQ ?_ | refine wF ?_ | refine wG ?_ | refine wT ?_ | refine wM ?_ | refine wS ?_ | refine wP ?_ | refine wJ ?_ | refine wX ?_ | refine wY ?_ | refine wZ ?_))
      clear hF
      repeat refine evDone ?_
      try (show AW _ _ _ _ _)
      repeat refine AW.seq ?_
      refine AW.reg ?_
      have hF := And.intro (htk) (And.intro (h1) (And.intro (h2) (And.intro (h3) (And.intro (hlen) (And.intro (eq_true hcc) (And.intro (hll) (hnl)))))))
      repeat (first | refine wD1 ?_ | refine wD2 ?_ | refine wE1 ?_ | refine wE2 ?_ | (refine wE3 ?_; intro _) | (refine wE4 ?_; intro _) | refine wN ?_ | ((with_reducible show evIs _ (_ :: _) _ _); first | refine wQ ?_ | refine wF ?_ | refine wG ?_ | refine wT ?_ | refine wM ?_ | refine wS ?_ | refine wP ?_ | refine wJ ?_ | refine wX ?_ | refine wY ?_ | refine wZ ?_))
      clear hF
      repeat refine evDone ?_
      try (show AW _ _ _ _ _)
      rw [← hls]
      obtain ⟨M, hM⟩ : ∃ M, M = n + 8 := ⟨_, rfl⟩
      have hMn : M < M + 100 := by omega
      have hM0 : (n + 8 = M) = True ∧ (M = n + 8) = True ∧ n < M + 100 := ⟨eq_true hM.symm, eq_true hM, by omega⟩
      repeat refine AW.seq ?_
      refine AW.block ?_
      refine AW.loop (fun g : Nat × Nat => g.1 ≤ i0 ∧ M + 50 ≤ g.2 ∧ (∀ j, j < g.1 → ∀ y, l[j]? = some y → ¬ y.id = x2)) (fun g => mkS [(0, .sl .fro (l.map Item.av)), (7, .sl .fro (l.map Item.av)), (8, .int .i64 l.length), (9, .int .i64 i0), (4, .ptr M 0 0), (16, .sl .fro (l'.map Item.av)), (17, .int .i64 i0), (18, .int .i64 g.1)] [(M, ⟨2, true, [.agg [.int .i64 x1, .int .i64 x2]]⟩)] g.2) (fun g => i0 - g.1) (0, M + 100) ⟨by simp, by simp, fun j hj => absurd hj (by simp)⟩ ?_ ?_
      · refine Fit.mk _ _ _ (by simp [hM0, hMn, conv2, newEmp, convs_refl, convs, conv]) (by simp [hM0, hMn, heapFit, newEmp, conv2s, conv2, convs_refl, convs, conv]) (by intro q hq; first | (simp at hq; done) | (simp at hq; omega) | (simp at hq; simp; omega))
      · rintro ⟨i, n⟩ ⟨hi, hn, hno⟩
        dsimp only at hi hn hno ⊢
        have hnl : ∀ k, (n + k < n) = False := fun k => eq_false (by omega)
        have hM0 : (∀ k, (M = n + k) = False) ∧ (∀ k, (n + k = M) = False) ∧ (∀ k, M < n + k) ∧ M < n := ⟨fun k => eq_false (by omega), fun k => eq_false (by omega), fun k => by omega, by omega⟩
        repeat refine AW.seq ?_
        refine AW.reg ?_
        by_cases hlt : i < i0
        · have hF := hlt
          repeat (first | refine wD1 ?_ | refine wD2 ?_ | refine wE1 ?_ | refine wE2 ?_ | (refine wE3 ?_; intro _) | (refine wE4 ?_; intro _) | refine wN ?_ | ((with_reducible show evIs _ (_ :: _) _ _); first | refine wQ ?_ | refine wF ?_ | refine wG ?_ | refine wT ?_ | refine wM ?_ | refine wS ?_ | refine wP ?_ | refine wJ ?_ | refine wX ?_ | refine wY ?_ | refine wZ ?_))
          clear hF
          repeat refine evDone ?_
          try (show AW _ _ _ _ _)
          repeat refine AW.seq ?_
          refine AW.condT (by simp []) (by simp []) ?_
          refine AW.skip ?_
          show AW _ _ _ _ _
          refine AW.seq (AW.block ?_)
          obtain ⟨y, hy⟩ : ∃ y, l'[i]? = some y := ⟨_, List.getElem?_eq_getElem (by omega)⟩
          have hy2 : l[i]? = some y := by rw [hl', List.getElem?_take_of_lt (by omega)] at hy; exact hy
          have he := elem_map (f := Item.av) hy
          obtain ⟨y1, y2⟩ := y
          simp only [Item.av] at he
          repeat refine AW.seq ?_
          refine AW.reg ?_
          have hF := And.intro (hll) (And.intro (he) (And.intro (hlt) (And.intro (hnl) (hM0))))
          repeat (first | refine wD1 ?_ | refine wD2 ?_ | refine wE1 ?_ | refine wE2 ?_ | (refine wE3 ?_; intro _) | (refine wE4 ?_; intro _) | refine wN ?_ | ((with_reducible show evIs _ (_ :: _) _ _); first | refine wQ ?_ | refine wF ?_ | refine wG ?_ | refine wT ?_ | refine wM ?_ | refine wS ?_ | refine wP ?_ | refine wJ ?_ | refine wX ?_ | refine wY ?_ | refine wZ ?_))
          clear hF
          repeat refine evDone ?_
          try (show AW _ _ _ _ _)
          repeat refine AW.seq ?_
          refine AW.reg ?_
          by_cases hc : x2 = y2
          · subst hc
            have hF := And.intro (hnl) (hM0)
            repeat (first | refine wD1 ?_ | refine wD2 ?_ | refine wE1 ?_ | refine wE2 ?_ | (refine wE3 ?_; intro _) | (refine wE4 ?_; intro _) | refine wN ?_ | ((with_reducible show evIs _ (_ :: _) _ _); first | refine wQ ?_ | refine wF ?_ | refine wG ?_ | refine wT ?_ | refine wM ?_ | refine wS ?_ | refine wP ?_ | refine wJ ?_ | refine wX ?_ | refine wY ?_ | refine wZ ?_))
            clear hF
            repeat refine evDone ?_
            try (show AW _ _ _ _ _)
            repeat refine AW.seq ?_
            refine AW.condT (by simp []) (by simp []) ?_
            repeat refine AW.seq ?_
            refine AW.reg ?_
            have hF := True.intro
            repeat (first | refine wD1 ?_ | refine wD2 ?_ | refine wE1 ?_ | refine wE2 ?_ | (refine wE3 ?_; intro _) | (refine wE4 ?_; intro _) | refine wN ?_ | ((with_reducible show evIs _ (_ :: _) _ _); first | refine wQ ?_ | refine wF ?_ | refine wG ?_ | refine wT ?_ | refine wM ?_ | refine wS ?_ | refine wP ?_ | refine wJ ?_ | refine wX ?_ | refine wY ?_ | refine wZ ?_))
            clear hF
            repeat refine evDone ?_
            try (show AW _ _ _ _ _)
            refine AW.ret (retI (r := .bool false) ⟨_, rfl, fun h => by cases h⟩ ?_)
            simp [a8_res, resOk, resP, resV, ARes.op, R2s, R2, R1s, R1, closeOk, closeV]
          have hc2 : (x2 == y2) = false := by simpa using hc
          have hF := And.intro (hc2) (And.intro (hnl) (hM0))
          repeat (first | refine wD1 ?_ | refine wD2 ?_ | refine wE1 ?_ | refine wE2 ?_ | (refine wE3 ?_; intro _) | (refine wE4 ?_; intro _) | refine wN ?_ | ((with_reducible show evIs _ (_ :: _) _ _); first | refine wQ ?_ | refine wF ?_ | refine wG ?_ | refine wT ?_ | refine wM ?_ | refine wS ?_ | refine wP ?_ | refine wJ ?_ | refine wX ?_ | refine wY ?_ | refine wZ ?_))
          clear hF
          repeat refine evDone ?_
          try (show AW _ _ _ _ _)
          repeat refine AW.seq ?_
          refine AW.condF (by simp [hc2, hc]) (by simp [hc2, hc]) ?_
          refine AW.skip ?_
          show AW _ _ _ _ _
          refine AW.reg ?_
          have hw : IntKind.i64.wrap ((i : Int) + 1) = (i : Int) + 1 := i64_in _ ⟨by omega, by omega⟩
          have hF := hw
          repeat (first | refine wD1 ?_ | refine wD2 ?_ | refine wE1 ?_ | refine wE2 ?_ | (refine wE3 ?_; intro _) | (refine wE4 ?_; intro _) | refine wN ?_ | ((with_reducible show evIs _ (_ :: _) _ _); first | refine wQ ?_ | refine wF ?_ | refine wG ?_ | refine wT ?_ | refine wM ?_ | refine wS ?_ | refine wP ?_ | refine wJ ?_ | refine wX ?_ | refine wY ?_ | refine wZ ?_))
          clear hF
          repeat refine evDone ?_
          try (show AW _ _ _ _ _)
          refine ⟨(i + 1, n + 100), ⟨by dsimp only; omega, by dsimp only; omega, fun j hj z hz => by
                rcases Nat.lt_succ_iff_lt_or_eq.1 hj with h | rfl
                · exact hno j h z hz
                · rw [hy2] at hz; injection hz with hz; rw [← hz]; exact fun e => hc e.symm⟩, by dsimp only; omega, ?_⟩
          refine Fit.mk _ _ _ (by simp [hw, hM0, conv2, newEmp, convs_refl, convs, conv]) (by simp [hw, hM0, heapFit, newEmp, conv2s, conv2, convs_refl, convs, conv]) (by intro q hq; first | (simp at hq; done) | (simp at hq; omega) | (simp at hq; simp; omega))
        · have hlt2 : ¬ (i : Int) < i0 := by omega
          have hF := And.intro (hlt) (hlt2)
          repeat (first | refine wD1 ?_ | refine wD2 ?_ | refine wE1 ?_ | refine wE2 ?_ | (refine wE3 ?_; intro _) | (refine wE4 ?_; intro _) | refine wN ?_ | ((with_reducible show evIs _ (_ :: _) _ _); first | refine wQ ?_ | refine wF ?_ | refine wG ?_ | refine wT ?_ | refine wM ?_ | refine wS ?_ | refine wP ?_ | refine wJ ?_ | refine wX ?_ | refine wY ?_ | refine wZ ?_))
          clear hF
          repeat refine evDone ?_
          try (show AW _ _ _ _ _)
          repeat refine AW.seq ?_
          refine AW.condF (by simp []) (by simp []) ?_
          refine AW.exit ?_
          show AW _ _ _ _ _
          refine AW.reg ?_
          have hw : IntKind.i64.wrap ((i0 : Int) + 1) = (i0 : Int) + 1 := i64_in _ ⟨by omega, by omega⟩
          have hF := hw
          repeat (first | refine wD1 ?_ | refine wD2 ?_ | refine wE1 ?_ | refine wE2 ?_ | (refine wE3 ?_; intro _) | (refine wE4 ?_; intro _) | refine wN ?_ | ((with_reducible show evIs _ (_ :: _) _ _); first | refine wQ ?_ | refine wF ?_ | refine wG ?_ | refine wT ?_ | refine wM ?_ | refine wS ?_ | refine wP ?_ | refine wJ ?_ | refine wX ?_ | refine wY ?_ | refine wZ ?_))
          clear hF
          repeat refine evDone ?_
          try (show AW _ _ _ _ _)
          refine ⟨(i0 + 1, n + 100), ⟨by dsimp only; omega, by dsimp only; omega, ?_⟩, by dsimp only; omega, ?_⟩
          · intro a b hab hai x y hx hy
            rcases Nat.lt_succ_iff_lt_or_eq.1 hai with h | haa
            · exact hno0 a b hab h x y hx hy
            · rw [haa] at hx hab
              have e1 := Option.some.inj (hx.symm.trans hxx)
              exact fun e => hno b (by omega) y hy (by rw [← e, e1]; done)
          refine Fit.mk _ _ _ (by simp [hw, conv2, newEmp, convs_refl, convs, conv]) (by simp [hw, heapFit, newEmp, conv2s, conv2, convs_refl, convs, conv]) (by intro q hq; first | (simp at hq; done) | (simp at hq; omega) | (simp at hq; simp; omega))
    · have hlt2 : ¬ (i0 : Int) < l.length := by omega
      have hF := And.intro (hlti0) (hlt2)
      repeat (first | refine wD1 ?_ | refine wD2 ?_ | refine wE1 ?_ | refine wE2 ?_ | (refine wE3 ?_; intro _) | (refine wE4 ?_; intro _) | refine wN ?_ | ((with_reducible show evIs _ (_ :: _) _ _); first | refine wQ ?_ | refine wF ?_ | refine wG ?_ | refine wT ?_ | refine wM ?_ | refine wS ?_ | refine wP ?_ | refine wJ ?_ | refine wX ?_ | refine wY ?_ | refine wZ ?_))
      clear hF
      repeat refine evDone ?_
      try (show AW _ _ _ _ _)
      repeat refine AW.seq ?_
      refine AW.condF (by simp []) (by simp []) ?_
      refine AW.exit ?_
      show AW _ _ _ _ _
      have hii : i0 = l.length := by omega
      subst hii
      repeat refine AW.seq ?_
      refine AW.reg ?_
      have hF := True.intro
      repeat (first | refine wD1 ?_ | refine wD2 ?_ | refine wE1 ?_ | refine wE2 ?_ | (refine wE3 ?_; intro _) | (refine wE4 ?_; intro _) | refine wN ?_ | ((with_reducible show evIs _ (_ :: _) _ _); first | refine wQ ?_ | refine wF ?_ | refine wG ?_ | refine wT ?_ | refine wM ?_ | refine wS ?_ | refine wP ?_ | refine wJ ?_ | refine wX ?_ | refine wY ?_ | refine wZ ?_))
      clear hF
      repeat refine evDone ?_
      try (show AW _ _ _ _ _)
      refine AW.ret (retI (r := .bool true) ⟨_, rfl, fun _ => hno⟩ ?_)
      simp [a8_res, resOk, resP, resV, ARes.op, R2s, R2, R1s, R1, closeOk, closeV]
end Go.Proofs.Ytljahaeachdjmaa

set_option linter.unusedSimpArgs false
set_option linter.unusedVariables false
namespace Go.Proofs.Ytljahaeachdjmaa
open Go Go.Amb Go.RowKit
section
variable {H : Type} {enc : TypeId × Value → H} {w : World} {n : Nat} {cs : List Value} {x : DataW H × List MemPlace}
theorem tell_item0 (h : DataW.trod enc Try.prog w 0 (fun _ => true) true n 31 cs = some x) : ∃ u : Item, Tell w (cellsOf u.av) cs ∧ (cellsOf u.av).length = Try.prog.cellsOf 31 ∧ u.due ≤ 9223372036854775807 := by
  obtain ⟨css, ds, m, rfl, hx, rfl, he⟩ := tell_fields Try.underlying31 (by kernel_rfl) h
  obtain ⟨c0, css, d0, ds, rfl, rfl, ⟨p0, h0⟩, he⟩ := each_cons he
  obtain ⟨c1, css, d1, ds, rfl, rfl, ⟨p1, h1⟩, he⟩ := each_cons he
  obtain ⟨rfl, rfl⟩ := each_nil he
  obtain ⟨i0, t0, e0, f0⟩ := tell_int Try.underlying3 h0
  obtain ⟨i1, t1, e1, f1⟩ := tell_int Try.underlying3 h1
  refine ⟨⟨i0, i1⟩, ?_, by simp; kernel_rfl, ?_⟩
  · have := t0.app t1
    simpa [Item.av] using this
  · simp [Lit.wf, IntKind.min, IntKind.max, IntKind.signed, IntKind.bits] at f0
    dsimp only
    omega
theorem tell_items {v : Value} {d : DataW H} {p : List MemPlace} (h : DataW.Trod enc Try.prog w 0 (fun _ => true) true 22 v d p) : ∃ ls : List Item, Tell w [.sl .fro (ls.map Item.av)] v.cells.toList ∧ ∀ x ∈ ls, x.due ≤ 9223372036854775807 := by
  obtain ⟨n, h⟩ := h
  obtain ⟨ps, a, _, e⟩ := tell_slice Try.underlying22 (by decide +kernel) Item.av (fun v d => v.due ≤ 9223372036854775807) h (fun m _ cs x hx => tell_item0 hx)
  refine ⟨ps, a, ?_⟩
  rcases e with ⟨_, rfl⟩ | ⟨es, sp, _, e⟩
  · simp
  · intro y hy
    obtain ⟨_, _, h⟩ := e.mem y hy
    exact h
theorem tell_item {v : Value} {d : DataW H} {p : List MemPlace} (h : DataW.Trod enc Try.prog w 0 (fun _ => true) true 31 v d p) : ∃ (a b : Int), Tell w [.int .i64 a, .int .i64 b] v.cells.toList := by
  obtain ⟨n, h⟩ := h
  obtain ⟨⟨a, b⟩, t, _, _⟩ := tell_item0 h
  exact ⟨a, b, t⟩
end
end Go.Proofs.Ytljahaeachdjmaa

set_option linter.unusedSimpArgs false
set_option linter.unusedVariables false
namespace Go.Proofs.Ytljahaeachdjmaa
open Go Go.Amb Go.IntWalk

theorem it_eq {xs : List Item} {i : Nat} (h : i < xs.length) : it xs i = xs[i] := by simp [it, h]
theorem swap_perm {xs : List Item} {i j : Nat} (hi : i < xs.length) (hj : j < xs.length) : (swap xs i j).Perm xs := by
  unfold swap
  rw [it_eq hi, it_eq hj]
  exact List.set_set_perm hi hj
theorem upF_perm : ∀ (k : Nat) (xs : List Item) (i : Nat), i < xs.length → (upF k xs i).Perm xs
  | 0, xs, _, _ => List.Perm.refl _
  | k + 1, xs, i, h => by
    unfold upF
    split
    · exact List.Perm.refl _
    · split
      · exact (upF_perm k _ _ (by rw [swap_len]; omega)).trans (swap_perm h (by omega))
      · exact List.Perm.refl _
theorem least1_lt {xs : List Item} {i : Nat} (h : i < xs.length) : least1 xs i < xs.length := by
  unfold least1
  split
  · rename_i h1; exact h1.1
  · exact h
theorem leastF_lt {xs : List Item} {i : Nat} (h : i < xs.length) : leastF xs i < xs.length := by
  unfold leastF
  split
  · rename_i h1; exact h1.1
  · exact least1_lt h
theorem downF_perm : ∀ (k : Nat) (xs : List Item) (i : Nat), i < xs.length → (downF k xs i).Perm xs
  | 0, xs, _, _ => List.Perm.refl _
  | k + 1, xs, i, h => by
    unfold downF
    split
    · exact List.Perm.refl _
    · exact (downF_perm k _ _ (by rw [swap_len]; exact leastF_lt h)).trans (swap_perm h (leastF_lt h))
theorem cutF_perm {xs : List Item} {i m : Nat} (hm : xs.length = m + 1) (hi : i ≤ m) : (it xs i :: cutF xs i m).Perm xs := by
  have h1 : swap xs i m = cutF xs i m ++ [it xs i] := by
    have hs : (swap xs i m).length = m + 1 := by rw [swap_len, hm]
    have h2 : swap xs i m = (swap xs i m).take m ++ (swap xs i m).drop m := (List.take_append_drop _ _).symm
    rw [h2]
    congr 1
    · simp [swap, cutF, List.take_set_of_le]
    · have : (swap xs i m).drop m = [(swap xs i m)[m]'(by omega)] := by
        rw [List.drop_eq_getElem_cons (by omega)]
        simp [List.drop_eq_nil_of_le, hs]
      rw [this]
      simp [swap]
  have h3 := swap_perm (xs := xs) (i := i) (j := m) (by omega) (by omega)
  rw [h1] at h3
  exact (List.perm_append_singleton _ _).symm.trans h3
theorem removeF_perm {xs : List Item} {i m : Nat} (hm : xs.length = m + 1) (hi : i ≤ m) : (it xs i :: removeF xs i m).Perm xs := by
  unfold removeF
  have hc := cutF_len hm i
  split
  · refine (List.Perm.cons _ ?_).trans (cutF_perm hm hi)
    exact (downF_perm _ _ _ (by rw [upF_len, hc]; omega)).trans (upF_perm _ _ _ (by omega))
  · exact cutF_perm hm hi
theorem popF_all : ∀ (k : Nat) (xs : List Item) (now : Int), xs.length < k → (∀ x ∈ xs, x.due ≤ now) → (popF k xs now).2 = [] ∧ (popF k xs now).1.Perm xs
  | 0, xs, _, h, _ => by omega
  | k + 1, xs, now, h, hd => by
    unfold popF
    by_cases h0 : 0 < xs.length
    · have h1 : (it xs 0).due ≤ now := hd _ (by rw [it_eq h0]; exact List.getElem_mem h0)
      have hm : xs.length = (xs.length - 1) + 1 := by omega
      have hp := removeF_perm (i := 0) hm (by omega)
      have hr := popF_all k (removeF xs 0 (xs.length - 1)) now (by rw [removeF_len hm]; omega) (fun x hx => hd x (hp.subset (List.mem_cons_of_mem _ hx)))
      rw [if_pos ⟨h0, h1⟩]
      exact ⟨hr.1, (hr.2.cons _).trans hp⟩
    · have : xs = [] := List.eq_nil_of_length_eq_zero (by omega)
      subst this
      simp
theorem addF_new {xs : List Item} {x : Item} (h : ∀ y ∈ xs, ¬ y.id = x.id) : (addF xs x).1.Perm (x :: xs) := by
  have hn : xs.findIdx? (fun y => y.id == x.id) = none := by
    rw [List.findIdx?_eq_none_iff]
    intro y hy
    simpa using h y hy
  have hi : idx xs (fun y => y.id == x.id) = -1 := by simp [idx, hn]
  unfold addF
  rw [hi]
  simp only [show ¬ (0 : Int) ≤ -1 by omega, if_false]
  exact (upF_perm _ _ _ (by simp)).trans (List.perm_append_singleton _ _)
theorem fillF_perm {l : List Item} (hd : Dist l l.length) : ∀ i, i ≤ l.length → (fillF [] (l.take i)).Perm (l.take i)
  | 0, _ => by simp [fillF]
  | i + 1, h => by
    have ih := fillF_perm hd i (by omega)
    have hx : l[i]? = some (l[i]'(by omega)) := List.getElem?_eq_getElem (by omega)
    rw [fillF_step l i _ [] hx]
    refine (addF_new (fun y hy => ?_)).trans ((ih.cons _).trans ?_)
    · have hy2 := ih.subset hy
      obtain ⟨j, hj, rfl⟩ := List.getElem_of_mem hy2
      have hj2 : j < i := by simp at hj; omega
      rw [List.getElem_take]
      exact fun e => hd i j hj2 (by omega) _ _ hx (List.getElem?_eq_getElem (by omega)) e.symm
    · rw [List.take_add_one, hx]
      exact (List.perm_append_singleton _ _).symm
theorem dist_mem {l : List Item} (hd : Dist l l.length) {x y : Item} (hx : x ∈ l) (hy : y ∈ l) (h : x.id = y.id) : x = y := by
  obtain ⟨i, hi, rfl⟩ := List.getElem_of_mem hx
  obtain ⟨j, hj, rfl⟩ := List.getElem_of_mem hy
  rcases Nat.lt_trichotomy i j with hij | rfl | hij
  · exact absurd h.symm (hd j i hij hj _ _ (List.getElem?_eq_getElem hj) (List.getElem?_eq_getElem hi))
  · rfl
  · exact absurd h (hd i j hij hi _ _ (List.getElem?_eq_getElem hi) (List.getElem?_eq_getElem hj))
theorem dist_nodup {l : List Item} (hd : Dist l l.length) : (l.map Item.id).Nodup := by
  rw [List.nodup_iff_pairwise_ne, List.pairwise_iff_getElem]
  intro i j hi hj hij
  simp only [List.getElem_map]
  simp only [List.length_map] at hi hj
  exact fun e => hd j i hij hj _ _ (List.getElem?_eq_getElem hj) (List.getElem?_eq_getElem hi) e.symm
/-- The law: a canceled item is not returned, all others are. -/
theorem cancel_law {l : List Item} (hd : Dist l l.length) (id now : Int) (hmax : ∀ x ∈ l, x.due ≤ now) (c : List Item × Bool) (hc : c = cancelF (fillF [] l) id) (p : List Item × List Item) (hp : p = popF (c.1.length + 1) c.1 now) :
    p.2 = [] ∧ (p.1.length : Int) = (if c.2 then (l.length : Int) - 1 else l.length) ∧ ∀ x ∈ l, decide (x ∈ p.1) = !(x.id == id) := by
  have hf := fillF_perm hd l.length (Nat.le_refl _)
  rw [List.take_length] at hf
  generalize fillF [] l = xs at hf hc
  unfold cancelF at hc
  cases h : xs.findIdx? (fun y => y.id == id) with
  | none =>
    rw [h] at hc
    subst hc
    have hno := List.findIdx?_eq_none_iff.1 h
    have ha := popF_all (xs.length + 1) xs now (by omega) (fun x hx => hmax x (hf.subset hx))
    dsimp only at hp
    rw [← hp] at ha
    refine ⟨ha.1, ?_, ?_⟩
    · simp [(ha.2.trans hf).length_eq]
    · intro x hx
      have h1 : x ∈ p.1 := (ha.2.trans hf).symm.subset hx
      have h2 := hno x (hf.symm.subset hx)
      simp [h1, h2]
  | some k =>
    rw [h] at hc
    obtain ⟨hk, hid, _⟩ := List.findIdx?_eq_some_iff_getElem.1 h
    have hm : xs.length = (xs.length - 1) + 1 := by omega
    have hr := (removeF_perm (i := k) hm (by omega))
    rw [it_eq hk] at hr
    subst hc
    dsimp only at hp ⊢
    generalize removeF xs k (xs.length - 1) = ys at hr hp
    generalize xs[k] = z at hr hid
    have hz : z.id = id := by simpa using hid
    have hall := hr.trans hf
    have ha := popF_all (ys.length + 1) ys now (by omega) (fun x hx => hmax x (hall.subset (List.mem_cons_of_mem _ hx)))
    rw [← hp] at ha
    refine ⟨ha.1, ?_, ?_⟩
    · have h1 := hall.length_eq
      have h2 := ha.2.length_eq
      simp only [List.length_cons] at h1
      simp only [if_true]
      omega
    · intro x hx
      have hnd := (hall.map Item.id).nodup_iff.2 (dist_nodup hd)
      rw [List.map_cons, List.nodup_cons] at hnd
      by_cases hxi : x.id = id
      · have hxp : ¬ x ∈ p.1 := fun hxp => hnd.1 (by rw [hz, ← hxi]; exact List.mem_map_of_mem (ha.2.subset hxp))
        simp [hxi, hxp]
      · have h1 : x ∈ z :: ys := hall.symm.subset hx
        rcases List.mem_cons.1 h1 with rfl | h2
        · exact absurd hz hxi
        · have hxp := ha.2.symm.subset h2
          simp [hxi, hxp]
end Go.Proofs.Ytljahaeachdjmaa
