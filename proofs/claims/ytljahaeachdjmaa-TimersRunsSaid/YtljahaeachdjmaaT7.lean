/- Chapter 37, thirtieth part: heap sort. -/
import Derived.Test.YtljahaeachdjmaaT5
import Derived.Test.YtljahaeachdjmaaT2

set_option linter.unusedSimpArgs false
set_option linter.unusedVariables false
set_option maxHeartbeats 8000000
namespace Go.Proofs.Ytljahaeachdjmaa
open Go Go.Amb Go.IntWalk

theorem f43 (N H : Nat) (hH : H < N) (xs : List Item) (a b : Nat) (hab : a < b) (hb : b ≤ xs.length) (hl : xs.length ≤ 200) :
    BCall Try.prog 43 [(H, ⟨2, false, xs.map Item.av⟩)] N [.hdr H 0 xs.length, .int .i64 a, .int .i64 b, .fn 35 []] (fun H1 n' v => ∃ ys, H1 = [(H, ⟨2, false, ys.map Item.av⟩)] ∧ N ≤ n' ∧ v = .tup [] ∧ Sam a b xs ys ∧ Srt a b ys) := by
  have hN : (∀ q, (H = N + q) = False) ∧ (∀ q, (N + q = H) = False) ∧ (H = N) = False ∧ (N = H) = False ∧ (∀ q, H < N + q) ∧ (∀ q, (N + q < N) = False) ∧ H < N := by
    refine ⟨?_, ?_, ?_, ?_, ?_, ?_, ?_⟩ <;> first | exact fun q => eq_false (by omega) | exact eq_false (by omega) | exact fun q => by omega | omega
  refine bcall_coded a43_ok (by simp) ?_
  generalize hn : xs.length = n at *
  rw [mkS_eq]
  obtain ⟨l, hll⟩ : ∃ l, b = a + l := ⟨b - a, by omega⟩
  obtain ⟨l1, hl1⟩ : ∃ l1, l = l1 + 1 := ⟨l - 1, by omega⟩
  obtain ⟨i0, hi0⟩ : ∃ i0, i0 = l1 / 2 := ⟨_, rfl⟩
  have hq : (l1 : Int).tdiv 2 = (i0 : Int) := by rw [hi0]; rfl
  have hbl : b = a + l := hll
  have hwl : IntKind.i64.wrap ((b : Int) - (a : Int)) = (l : Int) := by rw [show (b : Int) - (a : Int) = (l : Int) by omega]; exact i64_in _ ⟨by omega, by omega⟩
  have hwl1 : IntKind.i64.wrap ((l : Int) - 1) = (l1 : Int) := by rw [show (l : Int) - 1 = (l1 : Int) by omega]; exact i64_in _ ⟨by omega, by omega⟩
  have hwi0 : IntKind.i64.wrap ((i0 : Int)) = (i0 : Int) := by rw [show (i0 : Int) = (i0 : Int) by omega]; exact i64_in _ ⟨by omega, by omega⟩
  repeat refine AW.seq ?_
  refine AW.reg ?_
  have hF := hN
  repeat (first | refine wD1 ?_ | refine wD2 ?_ | refine wE1 ?_ | refine wE2 ?_ | (refine wE3 ?_; intro _) | (refine wE4 ?_; intro _) | refine wN ?_ | ((with_reducible show evIs _ (_ :: _) _ _); first | refine wQ ?_ | refine wF ?_ | refine wG ?_ | refine wT ?_ | refine wM ?_ | refine wS ?_ | refine wP ?_ | refine wJ ?_ | refine wX ?_ | refine wY ?_ | refine wZ ?_))
  clear hF
  repeat refine evDone ?_
  try (show AW _ _ _ _ _)
  repeat refine AW.seq ?_
  refine AW.reg ?_
  have hF := hN
  repeat (first | refine wD1 ?_ | refine wD2 ?_ | refine wE1 ?_ | refine wE2 ?_ | (refine wE3 ?_; intro _) | (refine wE4 ?_; intro _) | refine wN ?_ | ((with_reducible show evIs _ (_ :: _) _ _); first | refine wQ ?_ | refine wF ?_ | refine wG ?_ | refine wT ?_ | refine wM ?_ | refine wS ?_ | refine wP ?_ | refine wJ ?_ | refine wX ?_ | refine wY ?_ | refine wZ ?_))
  clear hF
  repeat refine evDone ?_
  try (show AW _ _ _ _ _)
  repeat refine AW.seq ?_
  refine AW.reg ?_
  have hF := And.intro (hwl) (hN)
  repeat (first | refine wD1 ?_ | refine wD2 ?_ | refine wE1 ?_ | refine wE2 ?_ | (refine wE3 ?_; intro _) | (refine wE4 ?_; intro _) | refine wN ?_ | ((with_reducible show evIs _ (_ :: _) _ _); first | refine wQ ?_ | refine wF ?_ | refine wG ?_ | refine wT ?_ | refine wM ?_ | refine wS ?_ | refine wP ?_ | refine wJ ?_ | refine wX ?_ | refine wY ?_ | refine wZ ?_))
  clear hF
  repeat refine evDone ?_
  try (show AW _ _ _ _ _)
  repeat refine AW.seq ?_
  refine AW.reg ?_
  have hF := And.intro (hwl1) (And.intro (hq) (And.intro (hwi0) (hN)))
  repeat (first | refine wD1 ?_ | refine wD2 ?_ | refine wE1 ?_ | refine wE2 ?_ | (refine wE3 ?_; intro _) | (refine wE4 ?_; intro _) | refine wN ?_ | ((with_reducible show evIs _ (_ :: _) _ _); first | refine wQ ?_ | refine wF ?_ | refine wG ?_ | refine wT ?_ | refine wM ?_ | refine wS ?_ | refine wP ?_ | refine wJ ?_ | refine wX ?_ | refine wY ?_ | refine wZ ?_))
  clear hF
  repeat refine evDone ?_
  try (show AW _ _ _ _ _)
  refine AW.endE (fun g : List Item × Nat => mkS [(0, .hdr H 0 n), (1, .int .i64 a), (2, .int .i64 b), (3, .fn 35 []), (8, .int .i64 a), (9, .int .i64 0), (10, .int .i64 l), (11, .int .i64 ((-1 : Int)))] [(H, ⟨2, false, g.1.map Item.av⟩)] g.2) (fun g => g.1.length = n ∧ N ≤ g.2 ∧ Sam a b xs g.1 ∧ Hp 0 l a g.1) ?_ ?_
  · refine AW.block ?_
    refine AW.loop (fun g : List Item × Nat × Nat => g.1.length = n ∧ g.2.1 ≤ 200 ∧ N ≤ g.2.2 ∧ Sam a b xs g.1 ∧ Hp g.2.1 l a g.1) (fun g => mkS [(0, .hdr H 0 n), (1, .int .i64 a), (2, .int .i64 b), (3, .fn 35 []), (8, .int .i64 a), (9, .int .i64 0), (10, .int .i64 l), (11, .int .i64 ((g.2.1 : Int) - 1))] [(H, ⟨2, false, g.1.map Item.av⟩)] g.2.2) (fun g => g.2.1) (xs, i0 + 1, N) ⟨hn, by dsimp only; omega, by simp, Sam.refl _ _ _, fun r c h1 h2 h3 => by dsimp only at h1; omega⟩ ?_ ?_
    · have he : (((i0 + 1 : Nat) : Int) - 1) = i0 := by omega
      refine Fit.mk _ _ _ (by simp [he, hN, conv2, newEmp, convs_refl, convs, conv]) (by simp [he, hN, heapFit, newEmp, conv2s, conv2, convs_refl, convs, conv]) (by intro q hq; first | (simp at hq; done) | (simp at hq; omega) | (simp at hq; simp; omega))
    rintro ⟨ys, i1, m⟩ ⟨hy, hi200, hNm, hs, hh⟩
    dsimp only at hy hi200 hNm hs hh ⊢
    have hm : H < m ∧ (∀ q, H < m + q) ∧ (H = m) = False ∧ (∀ q, (H = m + q) = False) ∧ (∀ q, (m + q = H) = False) := ⟨by omega, fun q => by omega, eq_false (by omega), fun q => eq_false (by omega), fun q => eq_false (by omega)⟩
    cases i1 with
    | zero =>
      repeat refine AW.seq ?_
      refine AW.reg ?_
      have hF := hm
      repeat (first | refine wD1 ?_ | refine wD2 ?_ | refine wE1 ?_ | refine wE2 ?_ | (refine wE3 ?_; intro _) | (refine wE4 ?_; intro _) | refine wN ?_ | ((with_reducible show evIs _ (_ :: _) _ _); first | refine wQ ?_ | refine wF ?_ | refine wG ?_ | refine wT ?_ | refine wM ?_ | refine wS ?_ | refine wP ?_ | refine wJ ?_ | refine wX ?_ | refine wY ?_ | refine wZ ?_))
      clear hF
      repeat refine evDone ?_
      try (show AW _ _ _ _ _)
      repeat refine AW.seq ?_
      refine AW.condF (by simp []) (by simp []) ?_
      refine AW.exit ?_
      refine ⟨rfl, (ys, m), ⟨hy, hNm, hs, hh⟩, ?_⟩
      refine Fit.mk _ _ _ (by simp [hm, conv2, newEmp, convs_refl, convs, conv]) (by simp [hm, heapFit, newEmp, conv2s, conv2, convs_refl, convs, conv]) (by intro q hq; first | (simp at hq; done) | (simp at hq; omega) | (simp at hq; simp; omega))
    | succ i =>
      have he : (((i + 1 : Nat) : Int) - 1) = i := by omega
      rw [mkS_eq]
      refine AW.fit (st' := mkS [(0, .hdr H 0 n), (1, .int .i64 a), (2, .int .i64 b), (3, .fn 35 []), (8, .int .i64 a), (9, .int .i64 0), (10, .int .i64 l), (11, .int .i64 i)] [(H, ⟨2, false, ys.map Item.av⟩)] m) ?_ ?_
      · refine Fit.mk _ _ _ (by simp [he, hm, conv2, newEmp, convs_refl, convs, conv]) (by simp [he, hm, heapFit, newEmp, conv2s, conv2, convs_refl, convs, conv]) (by intro q hq; first | (simp at hq; done) | (simp at hq; omega) | (simp at hq; simp; omega))
      have h52 := f52 m H (by omega) ys i l a (by omega) (by omega) (by omega) hh
      rw [hy] at h52
      have hi0' : (0 : Int) ≤ i := by omega
      have hwi : IntKind.i64.wrap ((i : Int) - 1) = (i : Int) - 1 := i64_in _ ⟨by omega, by omega⟩
      repeat refine AW.seq ?_
      refine AW.reg ?_
      have hF := And.intro (hi0') (hm)
      repeat (first | refine wD1 ?_ | refine wD2 ?_ | refine wE1 ?_ | refine wE2 ?_ | (refine wE3 ?_; intro _) | (refine wE4 ?_; intro _) | refine wN ?_ | ((with_reducible show evIs _ (_ :: _) _ _); first | refine wQ ?_ | refine wF ?_ | refine wG ?_ | refine wT ?_ | refine wM ?_ | refine wS ?_ | refine wP ?_ | refine wJ ?_ | refine wX ?_ | refine wY ?_ | refine wZ ?_))
      clear hF
      repeat refine evDone ?_
      try (show AW _ _ _ _ _)
      repeat refine AW.seq ?_
      refine AW.condT (by simp [hi0']) (by simp [hi0']) ?_
      refine AW.skip ?_
      show AW _ _ _ _ _
      refine AW.seq (AW.block ?_)
      refine AW.reg ?_
      have hF := hm
      repeat (first | refine wD1 ?_ | refine wD2 ?_ | refine wE1 ?_ | refine wE2 ?_ | (refine wE3 ?_; intro _) | (refine wE4 ?_; intro _) | refine wN ?_ | ((with_reducible show evIs _ (_ :: _) _ _); first | refine wQ ?_ | refine wF ?_ | refine wG ?_ | refine wT ?_ | refine wM ?_ | refine wS ?_ | refine wP ?_ | refine wJ ?_ | refine wX ?_ | refine wY ?_ | refine wZ ?_))
      clear hF
      repeat refine evDone ?_
      try (show AW _ _ _ _ _)
      have hF := hm
      refine wL (hA := h52) ?_
      clear hF
      rintro _ _ _ ⟨zs, rfl, rfl, g1, g2, rfl⟩
      have hF := hm
      repeat (first | refine wD1 ?_ | refine wD2 ?_ | refine wE1 ?_ | refine wE2 ?_ | (refine wE3 ?_; intro _) | (refine wE4 ?_; intro _) | refine wN ?_ | ((with_reducible show evIs _ (_ :: _) _ _); first | refine wQ ?_ | refine wF ?_ | refine wG ?_ | refine wT ?_ | refine wM ?_ | refine wS ?_ | refine wP ?_ | refine wJ ?_ | refine wX ?_ | refine wY ?_ | refine wZ ?_))
      clear hF
      repeat refine evDone ?_
      try (show AW _ _ _ _ _)
      show AW _ _ _ _ _
      refine AW.reg ?_
      have hF := And.intro (hwi) (hm)
      repeat (first | refine wD1 ?_ | refine wD2 ?_ | refine wE1 ?_ | refine wE2 ?_ | (refine wE3 ?_; intro _) | (refine wE4 ?_; intro _) | refine wN ?_ | ((with_reducible show evIs _ (_ :: _) _ _); first | refine wQ ?_ | refine wF ?_ | refine wG ?_ | refine wT ?_ | refine wM ?_ | refine wS ?_ | refine wP ?_ | refine wJ ?_ | refine wX ?_ | refine wY ?_ | refine wZ ?_))
      clear hF
      repeat refine evDone ?_
      try (show AW _ _ _ _ _)
      refine ⟨(zs, i, m + 1000), ⟨by rw [g1.len]; exact hy, by dsimp only; omega, by dsimp only; omega, hs.trans (g1.wide (by omega) (by omega)), g2⟩, by dsimp only; omega, ?_⟩
      refine Fit.mk _ _ _ (by simp [hwi, hm, conv2, newEmp, convs_refl, convs, conv]) (by simp [hwi, hm, heapFit, newEmp, conv2s, conv2, convs_refl, convs, conv]) (by intro q hq; first | (simp at hq; done) | (simp at hq; omega) | (simp at hq; simp; omega))
  rintro ⟨ys, m⟩ ⟨hy, hNm, hs, hh⟩
  dsimp only at hy hNm hs hh ⊢
  show AW _ _ _ _ _
  rw [mkS_eq]
  have hm : H < m ∧ (∀ q, H < m + q) ∧ (H = m) = False ∧ (∀ q, (H = m + q) = False) ∧ (∀ q, (m + q = H) = False) := ⟨by omega, fun q => by omega, eq_false (by omega), fun q => eq_false (by omega), fun q => eq_false (by omega)⟩
  repeat refine AW.seq ?_
  refine AW.reg ?_
  have hF := And.intro (hwl1) (hm)
  repeat (first | refine wD1 ?_ | refine wD2 ?_ | refine wE1 ?_ | refine wE2 ?_ | (refine wE3 ?_; intro _) | (refine wE4 ?_; intro _) | refine wN ?_ | ((with_reducible show evIs _ (_ :: _) _ _); first | refine wQ ?_ | refine wF ?_ | refine wG ?_ | refine wT ?_ | refine wM ?_ | refine wS ?_ | refine wP ?_ | refine wJ ?_ | refine wX ?_ | refine wY ?_ | refine wZ ?_))
  clear hF
  repeat refine evDone ?_
  try (show AW _ _ _ _ _)
  refine AW.block ?_
  refine AW.loop (fun g : List Item × Nat × Nat => g.1.length = n ∧ g.2.1 ≤ l ∧ N ≤ g.2.2 ∧ Sam a b xs g.1 ∧ HS a b g.2.1 g.1) (fun g => mkS [(0, .hdr H 0 n), (1, .int .i64 a), (2, .int .i64 b), (3, .fn 35 []), (8, .int .i64 a), (9, .int .i64 0), (10, .int .i64 l), (12, .int .i64 ((g.2.1 : Int) - 1))] [(H, ⟨2, false, g.1.map Item.av⟩)] g.2.2) (fun g => g.2.1) (ys, l, m) ⟨hy, by simp, hNm, hs, hh, fun p q h1 h2 h3 h4 => by dsimp only at h4; omega⟩ ?_ ?_
  · have he : ((l : Int) - 1) = l1 := by omega
    refine Fit.mk _ _ _ (by simp [he, hwl1, hm, conv2, newEmp, convs_refl, convs, conv]) (by simp [he, hwl1, hm, heapFit, newEmp, conv2s, conv2, convs_refl, convs, conv]) (by intro q hq; first | (simp at hq; done) | (simp at hq; omega) | (simp at hq; simp; omega))
  clear hm
  rintro ⟨ys, i1, m⟩ ⟨hy, hi200, hNm, hs, hh⟩
  dsimp only at hy hi200 hNm hs hh ⊢
  have hm : H < m ∧ (∀ q, H < m + q) ∧ (H = m) = False ∧ (∀ q, (H = m + q) = False) ∧ (∀ q, (m + q = H) = False) := ⟨by omega, fun q => by omega, eq_false (by omega), fun q => eq_false (by omega), fun q => eq_false (by omega)⟩
  cases i1 with
  | zero =>
    repeat refine AW.seq ?_
    refine AW.reg ?_
    have hF := hm
    repeat (first | refine wD1 ?_ | refine wD2 ?_ | refine wE1 ?_ | refine wE2 ?_ | (refine wE3 ?_; intro _) | (refine wE4 ?_; intro _) | refine wN ?_ | ((with_reducible show evIs _ (_ :: _) _ _); first | refine wQ ?_ | refine wF ?_ | refine wG ?_ | refine wT ?_ | refine wM ?_ | refine wS ?_ | refine wP ?_ | refine wJ ?_ | refine wX ?_ | refine wY ?_ | refine wZ ?_))
    clear hF
    repeat refine evDone ?_
    try (show AW _ _ _ _ _)
    repeat refine AW.seq ?_
    refine AW.condF (by simp []) (by simp []) ?_
    refine AW.exit ?_
    refine ⟨by simp [resP, a43_res, ARes.op], [(H, ⟨2, false, ys.map Item.av⟩)], m, [], ⟨ys, rfl, hNm, rfl, hs, fun p q h1 h2 h3 => hh.2 p q h1 h2 h3 (by omega)⟩, by omega, by simp [hN], rfl, by simp, ?_⟩
    simp only [resV, a43_res, List.map_nil]
    refine Fit.mk _ _ _ (by simp [hN, hm, conv2, newEmp, convs_refl, convs, conv]) (by simp [hN, hm, heapFit, newEmp, conv2s, conv2, convs_refl, convs, conv]) (by intro q hq; first | (simp at hq; done) | (simp at hq; omega) | (simp at hq; simp; omega))
  | succ i =>
    have he : (((i + 1 : Nat) : Int) - 1) = i := by omega
    rw [mkS_eq]
    refine AW.fit (st' := mkS [(0, .hdr H 0 n), (1, .int .i64 a), (2, .int .i64 b), (3, .fn 35 []), (8, .int .i64 a), (9, .int .i64 0), (10, .int .i64 l), (12, .int .i64 i)] [(H, ⟨2, false, ys.map Item.av⟩)] m) ?_ ?_
    · refine Fit.mk _ _ _ (by simp [he, hm, conv2, newEmp, convs_refl, convs, conv]) (by simp [he, hm, heapFit, newEmp, conv2s, conv2, convs_refl, convs, conv]) (by intro q hq; first | (simp at hq; done) | (simp at hq; omega) | (simp at hq; simp; omega))
    obtain ⟨q, hq⟩ : ∃ q, q = a + i := ⟨_, rfl⟩
    have hsw := hs_swap hh (by omega) (by omega)
    rw [← hq] at hsw
    have hs1 : Sam a b xs (swap ys a q) := hs.swap (by omega) (by omega) (by omega) (by omega) (by omega)
    have hi0' : (0 : Int) ≤ i := by omega
    have hwi : IntKind.i64.wrap ((i : Int) - 1) = (i : Int) - 1 := i64_in _ ⟨by omega, by omega⟩
    have hwq : IntKind.i64.wrap ((a : Int) + (i : Int)) = (q : Int) := by rw [show (a : Int) + (i : Int) = (q : Int) by omega]; exact i64_in _ ⟨by omega, by omega⟩
    have haa : (0 : Int) ≤ a := by omega
    have hab : (a : Int) < n := by omega
    have hac : a < n := by omega
    have hae := it_av (xs := ys) (i := a) (by omega)
    have hqa : (0 : Int) ≤ q := by omega
    have hqb : (q : Int) < n := by omega
    have hqc : q < n := by omega
    have hqe := it_av (xs := ys) (i := q) (by omega)
    have hse := it_av (xs := ys.set a (it ys q)) (i := q) (by simp; omega)
    rw [← set_av] at hse
    have h52 := f52 m H (by omega) (swap ys a q) 0 i a (by rw [swap_len]; omega) (by omega) (by rw [swap_len]; omega) hsw.1
    rw [show (((0 : Nat) : Int)) = 0 from rfl, swap_len, hy] at h52
    repeat refine AW.seq ?_
    refine AW.reg ?_
    have hF := And.intro (hi0') (hm)
    repeat (first | refine wD1 ?_ | refine wD2 ?_ | refine wE1 ?_ | refine wE2 ?_ | (refine wE3 ?_; intro _) | (refine wE4 ?_; intro _) | refine wN ?_ | ((with_reducible show evIs _ (_ :: _) _ _); first | refine wQ ?_ | refine wF ?_ | refine wG ?_ | refine wT ?_ | refine wM ?_ | refine wS ?_ | refine wP ?_ | refine wJ ?_ | refine wX ?_ | refine wY ?_ | refine wZ ?_))
    clear hF
    repeat refine evDone ?_
    try (show AW _ _ _ _ _)
    repeat refine AW.seq ?_
    refine AW.condT (by simp [hi0']) (by simp [hi0']) ?_
    refine AW.skip ?_
    show AW _ _ _ _ _
    refine AW.seq (AW.block ?_)
    repeat refine AW.seq ?_
    refine AW.draw ?_
    have hF := And.intro (hwq) (And.intro (hy) (And.intro (haa) (And.intro (hab) (And.intro (hac) (And.intro (hae) (And.intro (hqa) (And.intro (hqb) (And.intro (hqc) (And.intro (hqe) (And.intro (hse) (hm)))))))))))
    repeat (first | refine wD1 ?_ | refine wD2 ?_ | refine wE1 ?_ | refine wE2 ?_ | (refine wE3 ?_; intro _) | (refine wE4 ?_; intro _) | refine wN ?_ | ((with_reducible show evIs _ (_ :: _) _ _); first | refine wQ ?_ | refine wF ?_ | refine wG ?_ | refine wT ?_ | refine wM ?_ | refine wS ?_ | refine wP ?_ | refine wJ ?_ | refine wX ?_ | refine wY ?_ | refine wZ ?_))
    clear hF
    repeat refine evDone ?_
    try (show AW _ _ _ _ _)
    refine AW.fit (st' := mkS [(0, .hdr H 0 n), (1, .int .i64 a), (2, .int .i64 b), (3, .fn 35 []), (8, .int .i64 a), (9, .int .i64 0), (10, .int .i64 l), (12, .int .i64 i)] [(H, ⟨2, false, (swap ys a q).map Item.av⟩)] m) ?_ ?_
    · refine Fit.mk _ _ _ (by simp [swap, Item.av, hm, conv2, newEmp, convs_refl, convs, conv]) (by simp [swap, Item.av, hm, heapFit, newEmp, conv2s, conv2, convs_refl, convs, conv]) (by intro q hq; first | (simp at hq; done) | (simp at hq; omega) | (simp at hq; simp; omega))
    have hy2 : (swap ys a q).length = n := by rw [swap_len]; exact hy
    generalize swap ys a q = ws at *
    rw [mkS_eq]
    refine AW.reg ?_
    have hF := hm
    repeat (first | refine wD1 ?_ | refine wD2 ?_ | refine wE1 ?_ | refine wE2 ?_ | (refine wE3 ?_; intro _) | (refine wE4 ?_; intro _) | refine wN ?_ | ((with_reducible show evIs _ (_ :: _) _ _); first | refine wQ ?_ | refine wF ?_ | refine wG ?_ | refine wT ?_ | refine wM ?_ | refine wS ?_ | refine wP ?_ | refine wJ ?_ | refine wX ?_ | refine wY ?_ | refine wZ ?_))
    clear hF
    repeat refine evDone ?_
    try (show AW _ _ _ _ _)
    have hF := hm
    refine wL (hA := h52) ?_
    clear hF
    rintro _ _ _ ⟨zs, rfl, rfl, g1, g2, rfl⟩
    have hF := hm
    repeat (first | refine wD1 ?_ | refine wD2 ?_ | refine wE1 ?_ | refine wE2 ?_ | (refine wE3 ?_; intro _) | (refine wE4 ?_; intro _) | refine wN ?_ | ((with_reducible show evIs _ (_ :: _) _ _); first | refine wQ ?_ | refine wF ?_ | refine wG ?_ | refine wT ?_ | refine wM ?_ | refine wS ?_ | refine wP ?_ | refine wJ ?_ | refine wX ?_ | refine wY ?_ | refine wZ ?_))
    clear hF
    repeat refine evDone ?_
    try (show AW _ _ _ _ _)
    show AW _ _ _ _ _
    refine AW.reg ?_
    have hF := And.intro (hwi) (hm)
    repeat (first | refine wD1 ?_ | refine wD2 ?_ | refine wE1 ?_ | refine wE2 ?_ | (refine wE3 ?_; intro _) | (refine wE4 ?_; intro _) | refine wN ?_ | ((with_reducible show evIs _ (_ :: _) _ _); first | refine wQ ?_ | refine wF ?_ | refine wG ?_ | refine wT ?_ | refine wM ?_ | refine wS ?_ | refine wP ?_ | refine wJ ?_ | refine wX ?_ | refine wY ?_ | refine wZ ?_))
    clear hF
    repeat refine evDone ?_
    try (show AW _ _ _ _ _)
    have hnx := hs_next (i := i) (fun p r h1 h2 h3 h4 => hsw.2 p r h1 h2 h3 (by omega)) g1 g2
    refine ⟨(zs, i, m + 1000), ⟨by rw [g1.len]; exact hy2, by dsimp only; omega, by dsimp only; omega, hs1.trans (g1.wide (by omega) (by omega)), hnx⟩, by dsimp only; omega, ?_⟩
    refine Fit.mk _ _ _ (by simp [hwi, hm, conv2, newEmp, convs_refl, convs, conv]) (by simp [hwi, hm, heapFit, newEmp, conv2s, conv2, convs_refl, convs, conv]) (by intro q hq; first | (simp at hq; done) | (simp at hq; omega) | (simp at hq; simp; omega))
end Go.Proofs.Ytljahaeachdjmaa
