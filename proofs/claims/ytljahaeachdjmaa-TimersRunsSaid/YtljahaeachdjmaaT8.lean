/- Chapter 37, thirty-first part: pdqsort. -/
import Derived.Test.YtljahaeachdjmaaT4
import Derived.Test.YtljahaeachdjmaaT5
import Derived.Test.YtljahaeachdjmaaT6
import Derived.Test.YtljahaeachdjmaaT7

set_option linter.unusedSimpArgs false
set_option linter.unusedVariables false
set_option maxHeartbeats 8000000
namespace Go.Proofs.Ytljahaeachdjmaa
open Go Go.Amb Go.IntWalk

theorem AW.cutX {P : Program} {n : Nat} {γ : Type} {x y : ACode} {st : St} {Q : AE → St → Prop} (S : γ → St) (I : γ → Prop) (h : AW P n x st (fun e s => (e = .normal ∧ ∃ g, I g ∧ Fit s (S g)) ∨ (e ≠ .normal ∧ Q e s))) (k : ∀ g, I g → AW P n y (S g) Q) : AW P n (.seq x y) st Q :=
  AW.seq (AW.mono h (by
    rintro e s (⟨rfl, g, hg, hf⟩ | ⟨he, hq⟩)
    · exact AW.fit hf (k g hg)
    · cases e
      · exact absurd rfl he
      · exact hq
      · exact hq))
theorem f40 (k : Nat) : ∀ (N H : Nat) (hH : H < N) (xs : List Item) (a b : Nat) (lim : Int) (hk : b - a = k) (hab : a ≤ b) (hb : b ≤ xs.length) (hl : xs.length ≤ 200) (hpre : Pre a b xs),
    BCall Try.prog 40 [(H, ⟨2, false, xs.map Item.av⟩)] N [.hdr H 0 xs.length, .int .i64 a, .int .i64 b, .int .i64 lim, .fn 35 []] (fun H1 n' v => ∃ ys, H1 = [(H, ⟨2, false, ys.map Item.av⟩)] ∧ N ≤ n' ∧ v = .tup [] ∧ Sam a b xs ys ∧ Srt a b ys) := by
  induction k using Nat.strongRecOn with
  | ind k ih =>
  intro N H hH xs a b lim0 hk hab hb hl hpre
  have hN : (∀ q, (H = N + q) = False) ∧ (∀ q, (N + q = H) = False) ∧ (H = N) = False ∧ (N = H) = False ∧ (∀ q, H < N + q) ∧ (∀ q, (N + q < N) = False) ∧ H < N := by
    refine ⟨?_, ?_, ?_, ?_, ?_, ?_, ?_⟩ <;> first | exact fun q => eq_false (by omega) | exact eq_false (by omega) | exact fun q => by omega | omega
  refine bcall_coded a40_ok (by simp) ?_
  generalize hn : xs.length = n at *
  rw [mkS_eq]
  repeat refine AW.seq ?_
  refine AW.reg ?_
  have hF := hN
  repeat (first | refine wD1 ?_ | refine wD2 ?_ | refine wE1 ?_ | refine wE2 ?_ | (refine wE3 ?_; intro _) | (refine wE4 ?_; intro _) | refine wN ?_ | ((with_reducible show evIs _ (_ :: _) _ _); first | refine wQ ?_ | refine wF ?_ | refine wG ?_ | refine wT ?_ | refine wM ?_ | refine wS ?_ | refine wP ?_ | refine wJ ?_ | refine wX ?_ | refine wY ?_ | refine wZ ?_))
  clear hF
  repeat refine evDone ?_
  try (show AW _ _ _ _ _)
  repeat refine AW.seq ?_
  refine AW.reg ?_
  have hF := hN
  repeat (first | refine wD1 ?_ | refine wD2 ?_ | refine wE1 ?_ | refine wE2 ?_ | (refine wE3 ?_; intro _) | (refine wE4 ?_; intro _) | refine wN ?_ | ((with_reducible show evIs _ (_ :: _) _ _); first | refine wQ ?_ | refine wF ?_ | refine wG ?_ | refine wT ?_ | refine wM ?_ | refine wS ?_ | refine wP ?_ | refine wJ ?_ | refine wX ?_ | refine wY ?_ | refine wZ ?_))
  clear hF
  repeat refine evDone ?_
  try (show AW _ _ _ _ _)
  refine AW.block ?_
  refine AW.loop (fun g : List Item × (Nat × Nat) × Int × (Bool × Bool) × Nat => g.1.length = n ∧ a ≤ g.2.1.1 ∧ g.2.1.1 ≤ g.2.1.2 ∧ g.2.1.2 ≤ b ∧ Sam a b xs g.1 ∧ Oth a b g.2.1.1 g.2.1.2 g.1 ∧ N ≤ g.2.2.2.2) (fun g => mkS [(0, .hdr H 0 n), (1, .int .i64 g.2.1.1), (2, .int .i64 g.2.1.2), (3, .int .i64 g.2.2.1), (4, .fn 35 []), (10, .bool g.2.2.2.1.1), (11, .bool g.2.2.2.1.2)] [(H, ⟨2, false, g.1.map Item.av⟩)] g.2.2.2.2) (fun g => g.2.1.2 - g.2.1.1) (xs, (a, b), lim0, (true, true), N) ⟨hn, Nat.le_refl _, hab, Nat.le_refl _, Sam.refl _ _ _, ord_start _ _ _, Nat.le_refl _⟩ ?_ ?_
  · refine Fit.mk _ _ _ (by simp [hN, conv2, newEmp, convs_refl, convs, conv]) (by simp [hN, heapFit, newEmp, conv2s, conv2, convs_refl, convs, conv]) (by intro q hq; first | (simp at hq; done) | (simp at hq; omega) | (simp at hq; simp; omega))
  rintro ⟨ys, ⟨c, d⟩, lim, ⟨wb, wp⟩, m⟩ ⟨hy, hac, hcd, hdb, hs, ho, hNm⟩
  dsimp only at hy hac hcd hdb hs ho hNm ⊢
  obtain ⟨l, hll⟩ : ∃ l, d = c + l := ⟨d - c, by omega⟩
  have hwl : IntKind.i64.wrap ((d : Int) - (c : Int)) = (l : Int) := by rw [show (d : Int) - (c : Int) = (l : Int) by omega]; exact i64_in _ ⟨by omega, by omega⟩
  have hm : H < m ∧ (∀ q, H < m + q) ∧ (H = m) = False ∧ (∀ q, (H = m + q) = False) ∧ (∀ q, (m + q = H) = False) := ⟨by omega, fun q => by omega, eq_false (by omega), fun q => eq_false (by omega), fun q => eq_false (by omega)⟩
  refine AW.block ?_
  repeat refine AW.seq ?_
  refine AW.reg ?_
  have hF := And.intro (hwl) (hm)
  repeat (first | refine wD1 ?_ | refine wD2 ?_ | refine wE1 ?_ | refine wE2 ?_ | (refine wE3 ?_; intro _) | (refine wE4 ?_; intro _) | refine wN ?_ | ((with_reducible show evIs _ (_ :: _) _ _); first | refine wQ ?_ | refine wF ?_ | refine wG ?_ | refine wT ?_ | refine wM ?_ | refine wS ?_ | refine wP ?_ | refine wJ ?_ | refine wX ?_ | refine wY ?_ | refine wZ ?_))
  clear hF
  repeat refine evDone ?_
  try (show AW _ _ _ _ _)
  repeat refine AW.seq ?_
  refine AW.reg ?_
  by_cases hl12 : l ≤ 12
  · have hl12' : (l : Int) ≤ 12 := by omega
    have h42 := f42 m H (by omega) ys c d hcd (by omega) (by omega)
    rw [hy] at h42
    have hF := And.intro (hl12') (hm)
    repeat (first | refine wD1 ?_ | refine wD2 ?_ | refine wE1 ?_ | refine wE2 ?_ | (refine wE3 ?_; intro _) | (refine wE4 ?_; intro _) | refine wN ?_ | ((with_reducible show evIs _ (_ :: _) _ _); first | refine wQ ?_ | refine wF ?_ | refine wG ?_ | refine wT ?_ | refine wM ?_ | refine wS ?_ | refine wP ?_ | refine wJ ?_ | refine wX ?_ | refine wY ?_ | refine wZ ?_))
    clear hF
    repeat refine evDone ?_
    try (show AW _ _ _ _ _)
    repeat refine AW.seq ?_
    refine AW.condT (by simp [hl12']) (by simp [hl12']) ?_
    repeat refine AW.seq ?_
    refine AW.reg ?_
    have hF := hm
    repeat (first | refine wD1 ?_ | refine wD2 ?_ | refine wE1 ?_ | refine wE2 ?_ | (refine wE3 ?_; intro _) | (refine wE4 ?_; intro _) | refine wN ?_ | ((with_reducible show evIs _ (_ :: _) _ _); first | refine wQ ?_ | refine wF ?_ | refine wG ?_ | refine wT ?_ | refine wM ?_ | refine wS ?_ | refine wP ?_ | refine wJ ?_ | refine wX ?_ | refine wY ?_ | refine wZ ?_))
    clear hF
    repeat refine evDone ?_
    try (show AW _ _ _ _ _)
    have hF := hm
    refine wL (hA := h42) ?_
    clear hF
    rintro _ _ _ ⟨zs, rfl, rfl, g1, g2, rfl⟩
    have hF := hm
    repeat (first | refine wD1 ?_ | refine wD2 ?_ | refine wE1 ?_ | refine wE2 ?_ | (refine wE3 ?_; intro _) | (refine wE4 ?_; intro _) | refine wN ?_ | ((with_reducible show evIs _ (_ :: _) _ _); first | refine wQ ?_ | refine wF ?_ | refine wG ?_ | refine wT ?_ | refine wM ?_ | refine wS ?_ | refine wP ?_ | refine wJ ?_ | refine wX ?_ | refine wY ?_ | refine wZ ?_))
    clear hF
    repeat refine evDone ?_
    try (show AW _ _ _ _ _)
    refine AW.ret ⟨by simp [resP, a40_res, ARes.op, hm], [(H, ⟨2, false, zs.map Item.av⟩)], m + 1000, [], ⟨zs, rfl, by omega, rfl, hs.trans (g1.wide (by omega) (by omega)), ord_end ho g1 g2 hac hdb⟩, by omega, by simp [hm, hN], rfl, by simp, ?_⟩
    simp only [resV, a40_res, List.map_cons, List.map_nil, ARes.op]
    refine Fit.mk _ _ _ (by simp [hm, hN, conv2, newEmp, convs_refl, convs, conv]) (by simp [hm, hN, heapFit, newEmp, conv2s, conv2, convs_refl, convs, conv]) (by intro q hq; first | (simp at hq; done) | (simp at hq; omega) | (simp at hq; simp; omega))
  have hl12' : ¬ (l : Int) ≤ 12 := by omega
  have hF := And.intro (hl12') (hm)
  repeat (first | refine wD1 ?_ | refine wD2 ?_ | refine wE1 ?_ | refine wE2 ?_ | (refine wE3 ?_; intro _) | (refine wE4 ?_; intro _) | refine wN ?_ | ((with_reducible show evIs _ (_ :: _) _ _); first | refine wQ ?_ | refine wF ?_ | refine wG ?_ | refine wT ?_ | refine wM ?_ | refine wS ?_ | refine wP ?_ | refine wJ ?_ | refine wX ?_ | refine wY ?_ | refine wZ ?_))
  clear hF
  repeat refine evDone ?_
  try (show AW _ _ _ _ _)
  repeat refine AW.seq ?_
  refine AW.condF (by simp [hl12']) (by simp [hl12']) ?_
  refine AW.skip ?_
  show AW _ _ _ _ _
  repeat refine AW.seq ?_
  refine AW.reg ?_
  by_cases hlim : lim = 0
  · have hlim' : (lim == 0) = true := by simp [hlim]
    have h43 := f43 m H (by omega) ys c d (by omega) (by omega) (by omega)
    rw [hy] at h43
    have hF := And.intro (hlim') (hm)
    repeat (first | refine wD1 ?_ | refine wD2 ?_ | refine wE1 ?_ | refine wE2 ?_ | (refine wE3 ?_; intro _) | (refine wE4 ?_; intro _) | refine wN ?_ | ((with_reducible show evIs _ (_ :: _) _ _); first | refine wQ ?_ | refine wF ?_ | refine wG ?_ | refine wT ?_ | refine wM ?_ | refine wS ?_ | refine wP ?_ | refine wJ ?_ | refine wX ?_ | refine wY ?_ | refine wZ ?_))
    clear hF
    repeat refine evDone ?_
    try (show AW _ _ _ _ _)
    repeat refine AW.seq ?_
    refine AW.condT (by simp [hlim']) (by simp [hlim']) ?_
    repeat refine AW.seq ?_
    refine AW.reg ?_
    have hF := hm
    repeat (first | refine wD1 ?_ | refine wD2 ?_ | refine wE1 ?_ | refine wE2 ?_ | (refine wE3 ?_; intro _) | (refine wE4 ?_; intro _) | refine wN ?_ | ((with_reducible show evIs _ (_ :: _) _ _); first | refine wQ ?_ | refine wF ?_ | refine wG ?_ | refine wT ?_ | refine wM ?_ | refine wS ?_ | refine wP ?_ | refine wJ ?_ | refine wX ?_ | refine wY ?_ | refine wZ ?_))
    clear hF
    repeat refine evDone ?_
    try (show AW _ _ _ _ _)
    have hF := hm
    refine wL (hA := h43) ?_
    clear hF
    rintro _ n1 _ ⟨zs, rfl, hn1, rfl, g1, g2⟩
    have hm1 : H < n1 ∧ (∀ q, H < n1 + q) ∧ (H = n1) = False ∧ (∀ q, (H = n1 + q) = False) ∧ (∀ q, (n1 + q = H) = False) := ⟨by omega, fun q => by omega, eq_false (by omega), fun q => eq_false (by omega), fun q => eq_false (by omega)⟩
    have hF := And.intro (hm) (hm1)
    repeat (first | refine wD1 ?_ | refine wD2 ?_ | refine wE1 ?_ | refine wE2 ?_ | (refine wE3 ?_; intro _) | (refine wE4 ?_; intro _) | refine wN ?_ | ((with_reducible show evIs _ (_ :: _) _ _); first | refine wQ ?_ | refine wF ?_ | refine wG ?_ | refine wT ?_ | refine wM ?_ | refine wS ?_ | refine wP ?_ | refine wJ ?_ | refine wX ?_ | refine wY ?_ | refine wZ ?_))
    clear hF
    repeat refine evDone ?_
    try (show AW _ _ _ _ _)
    refine AW.ret ⟨by simp [resP, a40_res, ARes.op, hm], [(H, ⟨2, false, zs.map Item.av⟩)], n1, [], ⟨zs, rfl, by omega, rfl, hs.trans (g1.wide (by omega) (by omega)), ord_end ho g1 g2 hac hdb⟩, by omega, by simp [hm, hm1, hN], rfl, by simp, ?_⟩
    simp only [resV, a40_res, List.map_cons, List.map_nil, ARes.op]
    refine Fit.mk _ _ _ (by simp [hm, hm1, hN, conv2, newEmp, convs_refl, convs, conv]) (by simp [hm, hm1, hN, heapFit, newEmp, conv2s, conv2, convs_refl, convs, conv]) (by intro q hq; first | (simp at hq; done) | (simp at hq; omega) | (simp at hq; simp; omega))
  have hlim' : (lim == 0) = false := by simp [hlim]
  have hF := And.intro (hlim) (And.intro (hlim') (hm))
  repeat (first | refine wD1 ?_ | refine wD2 ?_ | refine wE1 ?_ | refine wE2 ?_ | (refine wE3 ?_; intro _) | (refine wE4 ?_; intro _) | refine wN ?_ | ((with_reducible show evIs _ (_ :: _) _ _); first | refine wQ ?_ | refine wF ?_ | refine wG ?_ | refine wT ?_ | refine wM ?_ | refine wS ?_ | refine wP ?_ | refine wJ ?_ | refine wX ?_ | refine wY ?_ | refine wZ ?_))
  clear hF
  repeat refine evDone ?_
  try (show AW _ _ _ _ _)
  repeat refine AW.seq ?_
  refine AW.condF (by simp [hlim, hlim']) (by simp [hlim, hlim']) ?_
  refine AW.skip ?_
  show AW _ _ _ _ _
  refine AW.cutE (fun g : List Item × Int × Nat => mkS [(0, .hdr H 0 n), (1, .int .i64 c), (2, .int .i64 d), (3, .int .i64 g.2.1), (4, .fn 35 []), (10, .bool wb), (11, .bool wp), (12, .int .i64 l)] [(H, ⟨2, false, g.1.map Item.av⟩)] g.2.2) (fun g => g.1.length = n ∧ Sam a b xs g.1 ∧ Oth a b c d g.1 ∧ N ≤ g.2.2) ?_ ?_
  · repeat refine AW.seq ?_
    refine AW.reg ?_
    cases wb with
    | true =>
      have hF := hm
      repeat (first | refine wD1 ?_ | refine wD2 ?_ | refine wE1 ?_ | refine wE2 ?_ | (refine wE3 ?_; intro _) | (refine wE4 ?_; intro _) | refine wN ?_ | ((with_reducible show evIs _ (_ :: _) _ _); first | refine wQ ?_ | refine wF ?_ | refine wG ?_ | refine wT ?_ | refine wM ?_ | refine wS ?_ | refine wP ?_ | refine wJ ?_ | refine wX ?_ | refine wY ?_ | refine wZ ?_))
      clear hF
      repeat refine evDone ?_
      try (show AW _ _ _ _ _)
      repeat refine AW.seq ?_
      refine AW.condF (by simp []) (by simp []) ?_
      refine AW.skip ?_
      refine ⟨rfl, (ys, lim, m), ⟨hy, hs, ho, hNm⟩, ?_⟩
      refine Fit.mk _ _ _ (by simp [hm, conv2, newEmp, convs_refl, convs, conv]) (by simp [hm, heapFit, newEmp, conv2s, conv2, convs_refl, convs, conv]) (by intro q hq; first | (simp at hq; done) | (simp at hq; omega) | (simp at hq; simp; omega))
    | false =>
      have h44 := f44 m H (by omega) ys c d (by omega) (by omega) (by omega)
      rw [hy] at h44
      have hF := hm
      repeat (first | refine wD1 ?_ | refine wD2 ?_ | refine wE1 ?_ | refine wE2 ?_ | (refine wE3 ?_; intro _) | (refine wE4 ?_; intro _) | refine wN ?_ | ((with_reducible show evIs _ (_ :: _) _ _); first | refine wQ ?_ | refine wF ?_ | refine wG ?_ | refine wT ?_ | refine wM ?_ | refine wS ?_ | refine wP ?_ | refine wJ ?_ | refine wX ?_ | refine wY ?_ | refine wZ ?_))
      clear hF
      repeat refine evDone ?_
      try (show AW _ _ _ _ _)
      repeat refine AW.seq ?_
      refine AW.condT (by simp []) (by simp []) ?_
      repeat refine AW.seq ?_
      refine AW.reg ?_
      have hF := hm
      repeat (first | refine wD1 ?_ | refine wD2 ?_ | refine wE1 ?_ | refine wE2 ?_ | (refine wE3 ?_; intro _) | (refine wE4 ?_; intro _) | refine wN ?_ | ((with_reducible show evIs _ (_ :: _) _ _); first | refine wQ ?_ | refine wF ?_ | refine wG ?_ | refine wT ?_ | refine wM ?_ | refine wS ?_ | refine wP ?_ | refine wJ ?_ | refine wX ?_ | refine wY ?_ | refine wZ ?_))
      clear hF
      repeat refine evDone ?_
      try (show AW _ _ _ _ _)
      have hF := hm
      refine wL (hA := h44) ?_
      clear hF
      rintro _ _ _ ⟨zs, rfl, rfl, rfl, g1⟩
      have hF := hm
      repeat (first | refine wD1 ?_ | refine wD2 ?_ | refine wE1 ?_ | refine wE2 ?_ | (refine wE3 ?_; intro _) | (refine wE4 ?_; intro _) | refine wN ?_ | ((with_reducible show evIs _ (_ :: _) _ _); first | refine wQ ?_ | refine wF ?_ | refine wG ?_ | refine wT ?_ | refine wM ?_ | refine wS ?_ | refine wP ?_ | refine wJ ?_ | refine wX ?_ | refine wY ?_ | refine wZ ?_))
      clear hF
      repeat refine evDone ?_
      try (show AW _ _ _ _ _)
      show AW _ _ _ _ _
      refine AW.reg ?_
      have hF := hm
      repeat (first | refine wD1 ?_ | refine wD2 ?_ | refine wE1 ?_ | refine wE2 ?_ | (refine wE3 ?_; intro _) | (refine wE4 ?_; intro _) | refine wN ?_ | ((with_reducible show evIs _ (_ :: _) _ _); first | refine wQ ?_ | refine wF ?_ | refine wG ?_ | refine wT ?_ | refine wM ?_ | refine wS ?_ | refine wP ?_ | refine wJ ?_ | refine wX ?_ | refine wY ?_ | refine wZ ?_))
      clear hF
      repeat refine evDone ?_
      try (show AW _ _ _ _ _)
      refine ⟨rfl, (zs, IntKind.i64.wrap (lim - 1), m + 10000), ⟨g1.len.trans hy, hs.trans (g1.wide (by omega) (by omega)), ord_sam ho g1 hac hdb, by dsimp only; omega⟩, ?_⟩
      refine Fit.mk _ _ _ (by simp [hm, conv2, newEmp, convs_refl, convs, conv]) (by simp [hm, heapFit, newEmp, conv2s, conv2, convs_refl, convs, conv]) (by intro q hq; first | (simp at hq; done) | (simp at hq; omega) | (simp at hq; simp; omega))
  clear hy hs ho hNm hm
  rintro ⟨ys, lim, m⟩ ⟨hy, hs, ho, hNm⟩
  dsimp only at hy hs ho hNm ⊢
  rw [mkS_eq]
  have hm : H < m ∧ (∀ q, H < m + q) ∧ (H = m) = False ∧ (∀ q, (H = m + q) = False) ∧ (∀ q, (m + q = H) = False) := ⟨by omega, fun q => by omega, eq_false (by omega), fun q => eq_false (by omega), fun q => eq_false (by omega)⟩
  have h45 := f45 m H (by omega) ys c d (by omega) (by omega) (by omega)
  rw [hy] at h45
  repeat refine AW.seq ?_
  refine AW.reg ?_
  have hF := hm
  repeat (first | refine wD1 ?_ | refine wD2 ?_ | refine wE1 ?_ | refine wE2 ?_ | (refine wE3 ?_; intro _) | (refine wE4 ?_; intro _) | refine wN ?_ | ((with_reducible show evIs _ (_ :: _) _ _); first | refine wQ ?_ | refine wF ?_ | refine wG ?_ | refine wT ?_ | refine wM ?_ | refine wS ?_ | refine wP ?_ | refine wJ ?_ | refine wX ?_ | refine wY ?_ | refine wZ ?_))
  clear hF
  repeat refine evDone ?_
  try (show AW _ _ _ _ _)
  have hF := hm
  refine wL (hA := h45) ?_
  clear hF
  rintro _ _ _ ⟨rfl, rfl, x, h, rfl, hx1, hx2⟩
  have hF := hm
  repeat (first | refine wD1 ?_ | refine wD2 ?_ | refine wE1 ?_ | refine wE2 ?_ | (refine wE3 ?_; intro _) | (refine wE4 ?_; intro _) | refine wN ?_ | ((with_reducible show evIs _ (_ :: _) _ _); first | refine wQ ?_ | refine wF ?_ | refine wG ?_ | refine wT ?_ | refine wM ?_ | refine wS ?_ | refine wP ?_ | refine wJ ?_ | refine wX ?_ | refine wY ?_ | refine wZ ?_))
  clear hF
  repeat refine evDone ?_
  try (show AW _ _ _ _ _)
  refine AW.cutE (fun g : List Item × Nat × Int × Nat => mkS [(0, .hdr H 0 n), (1, .int .i64 c), (2, .int .i64 d), (3, .int .i64 lim), (4, .fn 35 []), (10, .bool wb), (11, .bool wp), (12, .int .i64 l), (13, .int .i64 g.2.1), (14, .int .i64 g.2.2.1)] [(H, ⟨2, false, g.1.map Item.av⟩)] g.2.2.2) (fun g => g.1.length = n ∧ Sam a b xs g.1 ∧ Oth a b c d g.1 ∧ N ≤ g.2.2.2 ∧ c ≤ g.2.1 ∧ g.2.1 < d) ?_ ?_
  · repeat refine AW.seq ?_
    refine AW.reg ?_
    by_cases hh2 : h = 2
    · have hh2' : (h == 2) = true := by simp [hh2]
      have h46 := f46 (m + 2000) H (by omega) ys c d (by omega) (by omega) (by omega)
      rw [hy] at h46
      obtain ⟨p1, hp1⟩ : ∃ p1, d = p1 + 1 := ⟨d - 1, by omega⟩
      obtain ⟨p2, hp2⟩ : ∃ p2, x = c + p2 := ⟨x - c, by omega⟩
      obtain ⟨p3, hp3⟩ : ∃ p3, p1 = p2 + p3 := ⟨p1 - p2, by omega⟩
      have hwp1 : IntKind.i64.wrap ((d : Int) - 1) = (p1 : Int) := by rw [show (d : Int) - 1 = (p1 : Int) by omega]; exact i64_in _ ⟨by omega, by omega⟩
      have hwp2 : IntKind.i64.wrap ((x : Int) - (c : Int)) = (p2 : Int) := by rw [show (x : Int) - (c : Int) = (p2 : Int) by omega]; exact i64_in _ ⟨by omega, by omega⟩
      have hwp3 : IntKind.i64.wrap ((p1 : Int) - (p2 : Int)) = (p3 : Int) := by rw [show (p1 : Int) - (p2 : Int) = (p3 : Int) by omega]; exact i64_in _ ⟨by omega, by omega⟩
      have hF := And.intro (hh2') (hm)
      repeat (first | refine wD1 ?_ | refine wD2 ?_ | refine wE1 ?_ | refine wE2 ?_ | (refine wE3 ?_; intro _) | (refine wE4 ?_; intro _) | refine wN ?_ | ((with_reducible show evIs _ (_ :: _) _ _); first | refine wQ ?_ | refine wF ?_ | refine wG ?_ | refine wT ?_ | refine wM ?_ | refine wS ?_ | refine wP ?_ | refine wJ ?_ | refine wX ?_ | refine wY ?_ | refine wZ ?_))
      clear hF
      repeat refine evDone ?_
      try (show AW _ _ _ _ _)
      repeat refine AW.seq ?_
      refine AW.condT (by simp [hh2']) (by simp [hh2']) ?_
      repeat refine AW.seq ?_
      refine AW.reg ?_
      have hF := hm
      repeat (first | refine wD1 ?_ | refine wD2 ?_ | refine wE1 ?_ | refine wE2 ?_ | (refine wE3 ?_; intro _) | (refine wE4 ?_; intro _) | refine wN ?_ | ((with_reducible show evIs _ (_ :: _) _ _); first | refine wQ ?_ | refine wF ?_ | refine wG ?_ | refine wT ?_ | refine wM ?_ | refine wS ?_ | refine wP ?_ | refine wJ ?_ | refine wX ?_ | refine wY ?_ | refine wZ ?_))
      clear hF
      repeat refine evDone ?_
      try (show AW _ _ _ _ _)
      have hF := hm
      refine wL (hA := h46) ?_
      clear hF
      rintro _ _ _ ⟨zs, rfl, rfl, g1, rfl⟩
      have hF := hm
      repeat (first | refine wD1 ?_ | refine wD2 ?_ | refine wE1 ?_ | refine wE2 ?_ | (refine wE3 ?_; intro _) | (refine wE4 ?_; intro _) | refine wN ?_ | ((with_reducible show evIs _ (_ :: _) _ _); first | refine wQ ?_ | refine wF ?_ | refine wG ?_ | refine wT ?_ | refine wM ?_ | refine wS ?_ | refine wP ?_ | refine wJ ?_ | refine wX ?_ | refine wY ?_ | refine wZ ?_))
      clear hF
      repeat refine evDone ?_
      try (show AW _ _ _ _ _)
      repeat refine AW.seq ?_
      refine AW.reg ?_
      have hF := And.intro (hwp1) (And.intro (hwp2) (And.intro (hwp3) (hm)))
      repeat (first | refine wD1 ?_ | refine wD2 ?_ | refine wE1 ?_ | refine wE2 ?_ | (refine wE3 ?_; intro _) | (refine wE4 ?_; intro _) | refine wN ?_ | ((with_reducible show evIs _ (_ :: _) _ _); first | refine wQ ?_ | refine wF ?_ | refine wG ?_ | refine wT ?_ | refine wM ?_ | refine wS ?_ | refine wP ?_ | refine wJ ?_ | refine wX ?_ | refine wY ?_ | refine wZ ?_))
      clear hF
      repeat refine evDone ?_
      try (show AW _ _ _ _ _)
      show AW _ _ _ _ _
      refine AW.reg ?_
      have hF := hm
      repeat (first | refine wD1 ?_ | refine wD2 ?_ | refine wE1 ?_ | refine wE2 ?_ | (refine wE3 ?_; intro _) | (refine wE4 ?_; intro _) | refine wN ?_ | ((with_reducible show evIs _ (_ :: _) _ _); first | refine wQ ?_ | refine wF ?_ | refine wG ?_ | refine wT ?_ | refine wM ?_ | refine wS ?_ | refine wP ?_ | refine wJ ?_ | refine wX ?_ | refine wY ?_ | refine wZ ?_))
      clear hF
      repeat refine evDone ?_
      try (show AW _ _ _ _ _)
      have hm1 : H < m + 2000 + 1000 ∧ (∀ q, (H = m + 2000 + 1000 + q) = False) := ⟨by omega, fun q => eq_false (by omega)⟩
      refine ⟨rfl, (zs, p3, 1, m + 2000 + 1000), ⟨g1.len.trans hy, hs.trans (g1.wide (by omega) (by omega)), ord_sam ho g1 hac hdb, by dsimp only; omega, by dsimp only; omega, by dsimp only; omega⟩, ?_⟩
      refine Fit.mk _ _ _ (by simp [hm, hm1, conv2, newEmp, convs_refl, convs, conv]) (by simp [hm, hm1, heapFit, newEmp, conv2s, conv2, convs_refl, convs, conv]) (by intro q hq; first | (simp at hq; done) | (simp at hq; omega) | (simp at hq; simp; omega))
    · have hh2' : (h == 2) = false := by simp [hh2]
      have hF := And.intro (hh2) (And.intro (hh2') (hm))
      repeat (first | refine wD1 ?_ | refine wD2 ?_ | refine wE1 ?_ | refine wE2 ?_ | (refine wE3 ?_; intro _) | (refine wE4 ?_; intro _) | refine wN ?_ | ((with_reducible show evIs _ (_ :: _) _ _); first | refine wQ ?_ | refine wF ?_ | refine wG ?_ | refine wT ?_ | refine wM ?_ | refine wS ?_ | refine wP ?_ | refine wJ ?_ | refine wX ?_ | refine wY ?_ | refine wZ ?_))
      clear hF
      repeat refine evDone ?_
      try (show AW _ _ _ _ _)
      repeat refine AW.seq ?_
      refine AW.condF (by simp [hh2, hh2']) (by simp [hh2, hh2']) ?_
      refine AW.skip ?_
      refine ⟨rfl, (ys, x, h, m + 2000), ⟨hy, hs, ho, by dsimp only; omega, hx1, hx2⟩, ?_⟩
      refine Fit.mk _ _ _ (by simp [hm, conv2, newEmp, convs_refl, convs, conv]) (by simp [hm, heapFit, newEmp, conv2s, conv2, convs_refl, convs, conv]) (by intro q hq; first | (simp at hq; done) | (simp at hq; omega) | (simp at hq; simp; omega))
  clear hy hs ho hNm hm hx1 hx2
  rintro ⟨ys, pv, h, m⟩ ⟨hy, hs, ho, hNm, hx1, hx2⟩
  dsimp only at hy hs ho hNm hx1 hx2 ⊢
  rw [mkS_eq]
  have hm : H < m ∧ (∀ q, H < m + q) ∧ (H = m) = False ∧ (∀ q, (H = m + q) = False) ∧ (∀ q, (m + q = H) = False) := ⟨by omega, fun q => by omega, eq_false (by omega), fun q => eq_false (by omega), fun q => eq_false (by omega)⟩
  refine AW.cutX (fun g : List Item × Nat => mkS [(0, .hdr H 0 n), (1, .int .i64 c), (2, .int .i64 d), (3, .int .i64 lim), (4, .fn 35 []), (10, .bool wb), (11, .bool wp), (12, .int .i64 l), (13, .int .i64 pv), (14, .int .i64 h)] [(H, ⟨2, false, g.1.map Item.av⟩)] g.2) (fun g => g.1.length = n ∧ Sam a b xs g.1 ∧ Oth a b c d g.1 ∧ N ≤ g.2) ?_ ?_
  · repeat refine AW.seq ?_
    refine AW.reg ?_
    cases wb with
    | false =>
      have hF := hm
      repeat (first | refine wD1 ?_ | refine wD2 ?_ | refine wE1 ?_ | refine wE2 ?_ | (refine wE3 ?_; intro _) | (refine wE4 ?_; intro _) | refine wN ?_ | ((with_reducible show evIs _ (_ :: _) _ _); first | refine wQ ?_ | refine wF ?_ | refine wG ?_ | refine wT ?_ | refine wM ?_ | refine wS ?_ | refine wP ?_ | refine wJ ?_ | refine wX ?_ | refine wY ?_ | refine wZ ?_))
      clear hF
      repeat refine evDone ?_
      try (show AW _ _ _ _ _)
      repeat refine AW.seq ?_
      refine AW.condF (by simp []) (by simp []) ?_
      refine AW.skip (.inl ?_)
      refine ⟨rfl, (ys, m), ⟨hy, hs, ho, hNm⟩, ?_⟩
      refine Fit.mk _ _ _ (by simp [hm, conv2, newEmp, convs_refl, convs, conv]) (by simp [hm, heapFit, newEmp, conv2s, conv2, convs_refl, convs, conv]) (by intro q hq; first | (simp at hq; done) | (simp at hq; omega) | (simp at hq; simp; omega))
    | true =>
      cases wp with
      | false =>
        have hF := hm
        repeat (first | refine wD1 ?_ | refine wD2 ?_ | refine wE1 ?_ | refine wE2 ?_ | (refine wE3 ?_; intro _) | (refine wE4 ?_; intro _) | refine wN ?_ | ((with_reducible show evIs _ (_ :: _) _ _); first | refine wQ ?_ | refine wF ?_ | refine wG ?_ | refine wT ?_ | refine wM ?_ | refine wS ?_ | refine wP ?_ | refine wJ ?_ | refine wX ?_ | refine wY ?_ | refine wZ ?_))
        clear hF
        repeat refine evDone ?_
        try (show AW _ _ _ _ _)
        repeat refine AW.seq ?_
        refine AW.condF (by simp []) (by simp []) ?_
        refine AW.skip (.inl ?_)
        refine ⟨rfl, (ys, m), ⟨hy, hs, ho, hNm⟩, ?_⟩
        refine Fit.mk _ _ _ (by simp [hm, conv2, newEmp, convs_refl, convs, conv]) (by simp [hm, heapFit, newEmp, conv2s, conv2, convs_refl, convs, conv]) (by intro q hq; first | (simp at hq; done) | (simp at hq; omega) | (simp at hq; simp; omega))
      | true =>
        by_cases hh1 : h = 1
        · have hh1' : (h == 1) = true := by simp [hh1]
          have h47 := f47 m H (by omega) ys c d (by omega) (by omega) (by omega) (pre_of hpre hs ho (by omega) (by omega))
          rw [hy] at h47
          have hF := And.intro (hh1') (hm)
          repeat (first | refine wD1 ?_ | refine wD2 ?_ | refine wE1 ?_ | refine wE2 ?_ | (refine wE3 ?_; intro _) | (refine wE4 ?_; intro _) | refine wN ?_ | ((with_reducible show evIs _ (_ :: _) _ _); first | refine wQ ?_ | refine wF ?_ | refine wG ?_ | refine wT ?_ | refine wM ?_ | refine wS ?_ | refine wP ?_ | refine wJ ?_ | refine wX ?_ | refine wY ?_ | refine wZ ?_))
          clear hF
          repeat refine evDone ?_
          try (show AW _ _ _ _ _)
          repeat refine AW.seq ?_
          refine AW.condT (by simp [hh1']) (by simp [hh1']) ?_
          repeat refine AW.seq ?_
          refine AW.reg ?_
          have hF := hm
          repeat (first | refine wD1 ?_ | refine wD2 ?_ | refine wE1 ?_ | refine wE2 ?_ | (refine wE3 ?_; intro _) | (refine wE4 ?_; intro _) | refine wN ?_ | ((with_reducible show evIs _ (_ :: _) _ _); first | refine wQ ?_ | refine wF ?_ | refine wG ?_ | refine wT ?_ | refine wM ?_ | refine wS ?_ | refine wP ?_ | refine wJ ?_ | refine wX ?_ | refine wY ?_ | refine wZ ?_))
          clear hF
          repeat refine evDone ?_
          try (show AW _ _ _ _ _)
          have hF := hm
          refine wL (hA := h47) ?_
          clear hF
          rintro _ _ _ ⟨zs, rfl, rfl, f, rfl, g1, g2⟩
          have hF := hm
          repeat (first | refine wD1 ?_ | refine wD2 ?_ | refine wE1 ?_ | refine wE2 ?_ | (refine wE3 ?_; intro _) | (refine wE4 ?_; intro _) | refine wN ?_ | ((with_reducible show evIs _ (_ :: _) _ _); first | refine wQ ?_ | refine wF ?_ | refine wG ?_ | refine wT ?_ | refine wM ?_ | refine wS ?_ | refine wP ?_ | refine wJ ?_ | refine wX ?_ | refine wY ?_ | refine wZ ?_))
          clear hF
          repeat refine evDone ?_
          try (show AW _ _ _ _ _)
          cases f with
          | true =>
            repeat refine AW.seq ?_
            refine AW.condT (by simp []) (by simp []) ?_
            refine AW.ret (.inr ⟨by simp, by simp [resP, a40_res, ARes.op, hm], [(H, ⟨2, false, zs.map Item.av⟩)], m + 1000, [], ⟨zs, rfl, by omega, rfl, hs.trans (g1.wide (by omega) (by omega)), ord_end ho g1 (g2 rfl) hac hdb⟩, by omega, by simp [hm, hN], rfl, by simp, ?_⟩)
            simp only [resV, a40_res, List.map_cons, List.map_nil, ARes.op]
            refine Fit.mk _ _ _ (by simp [hm, hN, conv2, newEmp, convs_refl, convs, conv]) (by simp [hm, hN, heapFit, newEmp, conv2s, conv2, convs_refl, convs, conv]) (by intro q hq; first | (simp at hq; done) | (simp at hq; omega) | (simp at hq; simp; omega))
          | false =>
            repeat refine AW.seq ?_
            refine AW.condF (by simp []) (by simp []) ?_
            refine AW.skip (.inl ?_)
            refine ⟨rfl, (zs, m + 1000), ⟨g1.len.trans hy, hs.trans (g1.wide (by omega) (by omega)), ord_sam ho g1 hac hdb, by dsimp only; omega⟩, ?_⟩
            refine Fit.mk _ _ _ (by simp [hm, conv2, newEmp, convs_refl, convs, conv]) (by simp [hm, heapFit, newEmp, conv2s, conv2, convs_refl, convs, conv]) (by intro q hq; first | (simp at hq; done) | (simp at hq; omega) | (simp at hq; simp; omega))
        · have hh1' : (h == 1) = false := by simp [hh1]
          have hF := And.intro (hh1) (And.intro (hh1') (hm))
          repeat (first | refine wD1 ?_ | refine wD2 ?_ | refine wE1 ?_ | refine wE2 ?_ | (refine wE3 ?_; intro _) | (refine wE4 ?_; intro _) | refine wN ?_ | ((with_reducible show evIs _ (_ :: _) _ _); first | refine wQ ?_ | refine wF ?_ | refine wG ?_ | refine wT ?_ | refine wM ?_ | refine wS ?_ | refine wP ?_ | refine wJ ?_ | refine wX ?_ | refine wY ?_ | refine wZ ?_))
          clear hF
          repeat refine evDone ?_
          try (show AW _ _ _ _ _)
          repeat refine AW.seq ?_
          refine AW.condF (by simp [hh1, hh1']) (by simp [hh1, hh1']) ?_
          refine AW.skip (.inl ?_)
          refine ⟨rfl, (ys, m), ⟨hy, hs, ho, hNm⟩, ?_⟩
          refine Fit.mk _ _ _ (by simp [hm, conv2, newEmp, convs_refl, convs, conv]) (by simp [hm, heapFit, newEmp, conv2s, conv2, convs_refl, convs, conv]) (by intro q hq; first | (simp at hq; done) | (simp at hq; omega) | (simp at hq; simp; omega))
  clear hy hs ho hNm hm
  rintro ⟨ys, m⟩ ⟨hy, hs, ho, hNm⟩
  dsimp only at hy hs ho hNm ⊢
  rw [mkS_eq]
  have hm : H < m ∧ (∀ q, H < m + q) ∧ (H = m) = False ∧ (∀ q, (H = m + q) = False) ∧ (∀ q, (m + q = H) = False) := ⟨by omega, fun q => by omega, eq_false (by omega), fun q => eq_false (by omega), fun q => eq_false (by omega)⟩
  refine AW.cutX (fun g : Nat => mkS [(0, .hdr H 0 n), (1, .int .i64 c), (2, .int .i64 d), (3, .int .i64 lim), (4, .fn 35 []), (10, .bool wb), (11, .bool wp), (12, .int .i64 l), (13, .int .i64 pv)] [(H, ⟨2, false, ys.map Item.av⟩)] g) (fun g => g = m) ?_ ?_
  · by_cases hc0 : 0 < c
    · have hc0' : (0 : Int) < c := by omega
      obtain ⟨p, hp⟩ : ∃ p, c = p + 1 := ⟨c - 1, by omega⟩
      have hp2 : c - 1 = p := by omega
      have hwp : IntKind.i64.wrap ((c : Int) - 1) = (p : Int) := by rw [show (c : Int) - 1 = (p : Int) by omega]; exact i64_in _ ⟨by omega, by omega⟩
      have hpa : (0 : Int) ≤ p := by omega
      have hpb : (p : Int) < n := by omega
      have hpc : p < n := by omega
      have hpe := it_av (xs := ys) (i := p) (by omega)
      have hpva : (0 : Int) ≤ pv := by omega
      have hpvb : (pv : Int) < n := by omega
      have hpvc : pv < n := by omega
      have hpve := it_av (xs := ys) (i := pv) (by omega)
      cases hc : bef (it ys p) (it ys pv) with
      | true =>
        have h35 := c35t hc
        repeat refine AW.seq ?_
        refine AW.draw ?_
        have hF := And.intro (hc0) (And.intro (hc0') (And.intro (hwp) (And.intro (hy) (And.intro (hpa) (And.intro (hpb) (And.intro (hpc) (And.intro (hpe) (And.intro (hpva) (And.intro (hpvb) (And.intro (hpvc) (And.intro (hpve) (hm))))))))))))
        repeat (first | refine wD1 ?_ | refine wD2 ?_ | refine wE1 ?_ | refine wE2 ?_ | (refine wE3 ?_; intro _) | (refine wE4 ?_; intro _) | refine wN ?_ | ((with_reducible show evIs _ (_ :: _) _ _); first | refine wQ ?_ | refine wF ?_ | refine wG ?_ | refine wT ?_ | refine wM ?_ | refine wS ?_ | refine wP ?_ | refine wJ ?_ | refine wX ?_ | refine wY ?_ | refine wZ ?_))
        clear hF
        repeat refine evDone ?_
        try (show AW _ _ _ _ _)
        have hF := hm
        refine wV (hA := h35) ?_
        clear hF
        have hF := And.intro (hc0) (And.intro (hc0') (And.intro (hwp) (And.intro (hy) (And.intro (hpa) (And.intro (hpb) (And.intro (hpc) (And.intro (hpe) (And.intro (hpva) (And.intro (hpvb) (And.intro (hpvc) (And.intro (hpve) (hm))))))))))))
        repeat (first | refine wD1 ?_ | refine wD2 ?_ | refine wE1 ?_ | refine wE2 ?_ | (refine wE3 ?_; intro _) | (refine wE4 ?_; intro _) | refine wN ?_ | ((with_reducible show evIs _ (_ :: _) _ _); first | refine wQ ?_ | refine wF ?_ | refine wG ?_ | refine wT ?_ | refine wM ?_ | refine wS ?_ | refine wP ?_ | refine wJ ?_ | refine wX ?_ | refine wY ?_ | refine wZ ?_))
        clear hF
        repeat refine evDone ?_
        try (show AW _ _ _ _ _)
        repeat refine AW.seq ?_
        refine AW.condF (by simp []) (by simp []) ?_
        refine AW.skip (.inl ?_)
        refine ⟨rfl, m, rfl, ?_⟩
        refine Fit.mk _ _ _ (by simp [hm, conv2, newEmp, convs_refl, convs, conv]) (by simp [hm, heapFit, newEmp, conv2s, conv2, convs_refl, convs, conv]) (by intro q hq; first | (simp at hq; done) | (simp at hq; omega) | (simp at hq; simp; omega))
      | false =>
        have h35 := c35f hc
        have hpr := pre_of hpre hs ho (by omega) (by omega)
        have h48 := f48 m H (by omega) ys c d pv (by omega) (by omega) (by omega) hx1 hx2
        rw [hy] at h48
        repeat refine AW.seq ?_
        refine AW.draw ?_
        have hF := And.intro (hc0) (And.intro (hc0') (And.intro (hwp) (And.intro (hy) (And.intro (hpa) (And.intro (hpb) (And.intro (hpc) (And.intro (hpe) (And.intro (hpva) (And.intro (hpvb) (And.intro (hpvc) (And.intro (hpve) (hm))))))))))))
        repeat (first | refine wD1 ?_ | refine wD2 ?_ | refine wE1 ?_ | refine wE2 ?_ | (refine wE3 ?_; intro _) | (refine wE4 ?_; intro _) | refine wN ?_ | ((with_reducible show evIs _ (_ :: _) _ _); first | refine wQ ?_ | refine wF ?_ | refine wG ?_ | refine wT ?_ | refine wM ?_ | refine wS ?_ | refine wP ?_ | refine wJ ?_ | refine wX ?_ | refine wY ?_ | refine wZ ?_))
        clear hF
        repeat refine evDone ?_
        try (show AW _ _ _ _ _)
        have hF := hm
        refine wV (hA := h35) ?_
        clear hF
        have hF := And.intro (hc0) (And.intro (hc0') (And.intro (hwp) (And.intro (hy) (And.intro (hpa) (And.intro (hpb) (And.intro (hpc) (And.intro (hpe) (And.intro (hpva) (And.intro (hpvb) (And.intro (hpvc) (And.intro (hpve) (hm))))))))))))
        repeat (first | refine wD1 ?_ | refine wD2 ?_ | refine wE1 ?_ | refine wE2 ?_ | (refine wE3 ?_; intro _) | (refine wE4 ?_; intro _) | refine wN ?_ | ((with_reducible show evIs _ (_ :: _) _ _); first | refine wQ ?_ | refine wF ?_ | refine wG ?_ | refine wT ?_ | refine wM ?_ | refine wS ?_ | refine wP ?_ | refine wJ ?_ | refine wX ?_ | refine wY ?_ | refine wZ ?_))
        clear hF
        repeat refine evDone ?_
        try (show AW _ _ _ _ _)
        repeat refine AW.seq ?_
        refine AW.condT (by simp []) (by simp []) ?_
        repeat refine AW.seq ?_
        refine AW.reg ?_
        have hF := hm
        repeat (first | refine wD1 ?_ | refine wD2 ?_ | refine wE1 ?_ | refine wE2 ?_ | (refine wE3 ?_; intro _) | (refine wE4 ?_; intro _) | refine wN ?_ | ((with_reducible show evIs _ (_ :: _) _ _); first | refine wQ ?_ | refine wF ?_ | refine wG ?_ | refine wT ?_ | refine wM ?_ | refine wS ?_ | refine wP ?_ | refine wJ ?_ | refine wX ?_ | refine wY ?_ | refine wZ ?_))
        clear hF
        repeat refine evDone ?_
        try (show AW _ _ _ _ _)
        have hF := hm
        refine wL (hA := h48) ?_
        clear hF
        rintro _ _ _ ⟨zs, rfl, rfl, t, rfl, ht1, ht2, g1, g2, g3⟩
        have hF := hm
        repeat (first | refine wD1 ?_ | refine wD2 ?_ | refine wE1 ?_ | refine wE2 ?_ | (refine wE3 ?_; intro _) | (refine wE4 ?_; intro _) | refine wN ?_ | ((with_reducible show evIs _ (_ :: _) _ _); first | refine wQ ?_ | refine wF ?_ | refine wG ?_ | refine wT ?_ | refine wM ?_ | refine wS ?_ | refine wP ?_ | refine wJ ?_ | refine wX ?_ | refine wY ?_ | refine wZ ?_))
        clear hF
        repeat refine evDone ?_
        try (show AW _ _ _ _ _)
        repeat refine AW.seq ?_
        refine AW.reg ?_
        have hF := hm
        repeat (first | refine wD1 ?_ | refine wD2 ?_ | refine wE1 ?_ | refine wE2 ?_ | (refine wE3 ?_; intro _) | (refine wE4 ?_; intro _) | refine wN ?_ | ((with_reducible show evIs _ (_ :: _) _ _); first | refine wQ ?_ | refine wF ?_ | refine wG ?_ | refine wT ?_ | refine wM ?_ | refine wS ?_ | refine wP ?_ | refine wJ ?_ | refine wX ?_ | refine wY ?_ | refine wZ ?_))
        clear hF
        repeat refine evDone ?_
        try (show AW _ _ _ _ _)
        refine AW.exit (.inr ⟨by simp, ?_⟩)
        refine ⟨(zs, (t, d), lim, (wb, wp), m + 1000), ⟨g1.len.trans hy, by dsimp only; omega, by dsimp only; omega, hdb, hs.trans (g1.wide (by omega) (by omega)), ord_equal ho g1 hac hdb ht2 (fun k k1 k2 => Ple.trans (show Ple (it ys pv) (it ys p) from hc) (hp2 ▸ hpr k hc0 k1 k2)) g2, by dsimp only; omega⟩, by dsimp only; omega, ?_⟩
        refine Fit.mk _ _ _ (by simp [hm, conv2, newEmp, convs_refl, convs, conv]) (by simp [hm, heapFit, newEmp, conv2s, conv2, convs_refl, convs, conv]) (by intro q hq; first | (simp at hq; done) | (simp at hq; omega) | (simp at hq; simp; omega))
    · have hc0' : ¬ (0 : Int) < c := by omega
      repeat refine AW.seq ?_
      refine AW.draw ?_
      have hF := And.intro (hc0) (And.intro (hc0') (hm))
      repeat (first | refine wD1 ?_ | refine wD2 ?_ | refine wE1 ?_ | refine wE2 ?_ | refine wE6 ?_ | refine wE7 ?_ | refine wE5 ?_ | refine wN ?_ | ((with_reducible show evIs _ (_ :: _) _ _); first | refine wQ ?_ | refine wF ?_ | refine wG ?_ | refine wT ?_ | refine wM ?_ | refine wS ?_ | refine wP ?_ | refine wJ ?_ | refine wX ?_ | refine wY ?_ | refine wZ ?_))
      clear hF
      repeat refine evDone ?_
      try (show AW _ _ _ _ _)
      repeat refine AW.seq ?_
      refine AW.condF (by simp []) (by simp []) ?_
      refine AW.skip (.inl ?_)
      refine ⟨rfl, m, rfl, ?_⟩
      refine Fit.mk _ _ _ (by simp [hm, conv2, newEmp, convs_refl, convs, conv]) (by simp [hm, heapFit, newEmp, conv2s, conv2, convs_refl, convs, conv]) (by intro q hq; first | (simp at hq; done) | (simp at hq; omega) | (simp at hq; simp; omega))
  intro g hg
  subst hg
  have hpr := pre_of hpre hs ho (by omega) (by omega)
  have h49 := f49 g H (by omega) ys c d pv (by omega) (by omega) (by omega) hx1 hx2
  rw [hy] at h49
  rw [mkS_eq]
  repeat refine AW.seq ?_
  refine AW.reg ?_
  have hF := hm
  repeat (first | refine wD1 ?_ | refine wD2 ?_ | refine wE1 ?_ | refine wE2 ?_ | (refine wE3 ?_; intro _) | (refine wE4 ?_; intro _) | refine wN ?_ | ((with_reducible show evIs _ (_ :: _) _ _); first | refine wQ ?_ | refine wF ?_ | refine wG ?_ | refine wT ?_ | refine wM ?_ | refine wS ?_ | refine wP ?_ | refine wJ ?_ | refine wX ?_ | refine wY ?_ | refine wZ ?_))
  clear hF
  repeat refine evDone ?_
  try (show AW _ _ _ _ _)
  have hF := hm
  refine wL (hA := h49) ?_
  clear hF
  rintro _ _ _ ⟨zs, rfl, rfl, t, f, rfl, ht1, ht2, g1, g2⟩
  have hzy : zs.length = n := g1.len.trans hy
  have hs : Sam a b xs zs := hs.trans (g1.wide (by omega) (by omega))
  have hpr2 : Pre c d zs := pre_of hpr g1 (ord_start c d zs) (Nat.le_refl _) (Nat.le_refl _)
  have ho : Oth a b c d zs := ord_sam ho g1 hac hdb
  obtain ⟨ll, hle⟩ : ∃ ll, t = c + ll := ⟨t - c, by omega⟩
  obtain ⟨rr, hre⟩ : ∃ rr, d = t + rr := ⟨d - t, by omega⟩
  obtain ⟨e8, he8⟩ : ∃ e8, e8 = l / 8 := ⟨_, rfl⟩
  obtain ⟨t1, ht'⟩ : ∃ t1, t1 = t + 1 := ⟨_, rfl⟩
  have hq8 : (l : Int).tdiv 8 = (e8 : Int) := by rw [he8]; rfl
  have hwll : IntKind.i64.wrap ((t : Int) - (c : Int)) = (ll : Int) := by rw [show (t : Int) - (c : Int) = (ll : Int) by omega]; exact i64_in _ ⟨by omega, by omega⟩
  have hwrr : IntKind.i64.wrap ((d : Int) - (t : Int)) = (rr : Int) := by rw [show (d : Int) - (t : Int) = (rr : Int) by omega]; exact i64_in _ ⟨by omega, by omega⟩
  have hwe8 : IntKind.i64.wrap ((e8 : Int)) = (e8 : Int) := by rw [show (e8 : Int) = (e8 : Int) by omega]; exact i64_in _ ⟨by omega, by omega⟩
  have hwt1 : IntKind.i64.wrap ((t : Int) + 1) = (t1 : Int) := by rw [show (t : Int) + 1 = (t1 : Int) by omega]; exact i64_in _ ⟨by omega, by omega⟩
  have hF := hm
  repeat (first | refine wD1 ?_ | refine wD2 ?_ | refine wE1 ?_ | refine wE2 ?_ | (refine wE3 ?_; intro _) | (refine wE4 ?_; intro _) | refine wN ?_ | ((with_reducible show evIs _ (_ :: _) _ _); first | refine wQ ?_ | refine wF ?_ | refine wG ?_ | refine wT ?_ | refine wM ?_ | refine wS ?_ | refine wP ?_ | refine wJ ?_ | refine wX ?_ | refine wY ?_ | refine wZ ?_))
  clear hF
  repeat refine evDone ?_
  try (show AW _ _ _ _ _)
  repeat refine AW.seq ?_
  refine AW.reg ?_
  have hF := hm
  repeat (first | refine wD1 ?_ | refine wD2 ?_ | refine wE1 ?_ | refine wE2 ?_ | (refine wE3 ?_; intro _) | (refine wE4 ?_; intro _) | refine wN ?_ | ((with_reducible show evIs _ (_ :: _) _ _); first | refine wQ ?_ | refine wF ?_ | refine wG ?_ | refine wT ?_ | refine wM ?_ | refine wS ?_ | refine wP ?_ | refine wJ ?_ | refine wX ?_ | refine wY ?_ | refine wZ ?_))
  clear hF
  repeat refine evDone ?_
  try (show AW _ _ _ _ _)
  repeat refine AW.seq ?_
  refine AW.reg ?_
  have hF := And.intro (hwll) (And.intro (hwrr) (hm))
  repeat (first | refine wD1 ?_ | refine wD2 ?_ | refine wE1 ?_ | refine wE2 ?_ | (refine wE3 ?_; intro _) | (refine wE4 ?_; intro _) | refine wN ?_ | ((with_reducible show evIs _ (_ :: _) _ _); first | refine wQ ?_ | refine wF ?_ | refine wG ?_ | refine wT ?_ | refine wM ?_ | refine wS ?_ | refine wP ?_ | refine wJ ?_ | refine wX ?_ | refine wY ?_ | refine wZ ?_))
  clear hF
  repeat refine evDone ?_
  try (show AW _ _ _ _ _)
  repeat refine AW.seq ?_
  refine AW.reg ?_
  have hF := And.intro (hq8) (And.intro (hwe8) (hm))
  repeat (first | refine wD1 ?_ | refine wD2 ?_ | refine wE1 ?_ | refine wE2 ?_ | (refine wE3 ?_; intro _) | (refine wE4 ?_; intro _) | refine wN ?_ | ((with_reducible show evIs _ (_ :: _) _ _); first | refine wQ ?_ | refine wF ?_ | refine wG ?_ | refine wT ?_ | refine wM ?_ | refine wS ?_ | refine wP ?_ | refine wJ ?_ | refine wX ?_ | refine wY ?_ | refine wZ ?_))
  clear hF
  repeat refine evDone ?_
  try (show AW _ _ _ _ _)
  refine AW.seq (AW.reg ?_)
  by_cases hlr : ll < rr
  · have hlr' : (ll : Int) < rr := by omega
    have h40 := ih (t - c) (by omega) (g + 1000) H (by omega) zs c t lim rfl (by omega) (by omega) (by omega) (fun j j0 j1 j2 => hpr2 j j0 j1 (by omega))
    rw [hzy] at h40
    have hF := And.intro (hlr') (hm)
    repeat (first | refine wD1 ?_ | refine wD2 ?_ | refine wE1 ?_ | refine wE2 ?_ | (refine wE3 ?_; intro _) | (refine wE4 ?_; intro _) | refine wN ?_ | ((with_reducible show evIs _ (_ :: _) _ _); first | refine wQ ?_ | refine wF ?_ | refine wG ?_ | refine wT ?_ | refine wM ?_ | refine wS ?_ | refine wP ?_ | refine wJ ?_ | refine wX ?_ | refine wY ?_ | refine wZ ?_))
    clear hF
    repeat refine evDone ?_
    try (show AW _ _ _ _ _)
    repeat refine AW.seq ?_
    refine AW.condT (by simp [hlr']) (by simp [hlr']) ?_
    repeat refine AW.seq ?_
    refine AW.reg ?_
    have hF := hm
    repeat (first | refine wD1 ?_ | refine wD2 ?_ | refine wE1 ?_ | refine wE2 ?_ | (refine wE3 ?_; intro _) | (refine wE4 ?_; intro _) | refine wN ?_ | ((with_reducible show evIs _ (_ :: _) _ _); first | refine wQ ?_ | refine wF ?_ | refine wG ?_ | refine wT ?_ | refine wM ?_ | refine wS ?_ | refine wP ?_ | refine wJ ?_ | refine wX ?_ | refine wY ?_ | refine wZ ?_))
    clear hF
    repeat refine evDone ?_
    try (show AW _ _ _ _ _)
    repeat refine AW.seq ?_
    refine AW.reg ?_
    have hF := hm
    repeat (first | refine wD1 ?_ | refine wD2 ?_ | refine wE1 ?_ | refine wE2 ?_ | (refine wE3 ?_; intro _) | (refine wE4 ?_; intro _) | refine wN ?_ | ((with_reducible show evIs _ (_ :: _) _ _); first | refine wQ ?_ | refine wF ?_ | refine wG ?_ | refine wT ?_ | refine wM ?_ | refine wS ?_ | refine wP ?_ | refine wJ ?_ | refine wX ?_ | refine wY ?_ | refine wZ ?_))
    clear hF
    repeat refine evDone ?_
    try (show AW _ _ _ _ _)
    have hF := hm
    refine wL (hA := h40) ?_
    clear hF
    rintro _ n1 _ ⟨ws, rfl, hn1, rfl, g3, g4⟩
    have hm1 : H < n1 ∧ (∀ q, H < n1 + q) ∧ (H = n1) = False ∧ (∀ q, (H = n1 + q) = False) ∧ (∀ q, (n1 + q = H) = False) := ⟨by omega, fun q => by omega, eq_false (by omega), fun q => eq_false (by omega), fun q => eq_false (by omega)⟩
    have hF := And.intro (hm) (hm1)
    repeat (first | refine wD1 ?_ | refine wD2 ?_ | refine wE1 ?_ | refine wE2 ?_ | (refine wE3 ?_; intro _) | (refine wE4 ?_; intro _) | refine wN ?_ | ((with_reducible show evIs _ (_ :: _) _ _); first | refine wQ ?_ | refine wF ?_ | refine wG ?_ | refine wT ?_ | refine wM ?_ | refine wS ?_ | refine wP ?_ | refine wJ ?_ | refine wX ?_ | refine wY ?_ | refine wZ ?_))
    clear hF
    repeat refine evDone ?_
    try (show AW _ _ _ _ _)
    show AW _ _ _ _ _
    refine AW.reg ?_
    have hF := And.intro (hwt1) (And.intro (hm) (hm1))
    repeat (first | refine wD1 ?_ | refine wD2 ?_ | refine wE1 ?_ | refine wE2 ?_ | (refine wE3 ?_; intro _) | (refine wE4 ?_; intro _) | refine wN ?_ | ((with_reducible show evIs _ (_ :: _) _ _); first | refine wQ ?_ | refine wF ?_ | refine wG ?_ | refine wT ?_ | refine wM ?_ | refine wS ?_ | refine wP ?_ | refine wJ ?_ | refine wX ?_ | refine wY ?_ | refine wZ ?_))
    clear hF
    repeat refine evDone ?_
    try (show AW _ _ _ _ _)
    refine ⟨(ws, (t1, d), lim, (decide ((e8 : Int) ≤ ll), f), n1), ⟨g3.len.trans hzy, by dsimp only; omega, by dsimp only; omega, hdb, hs.trans (g3.wide (by omega) (by omega)), by rw [ht']; exact ord_left ho g3 g4 g2 hac ht1 ht2 hdb, by dsimp only; omega⟩, by dsimp only; omega, ?_⟩
    refine Fit.mk _ _ _ (by simp [hm, hm1, conv2, newEmp, convs_refl, convs, conv]) (by simp [hm, hm1, heapFit, newEmp, conv2s, conv2, convs_refl, convs, conv]) (by intro q hq; first | (simp at hq; done) | (simp at hq; omega) | (simp at hq; simp; omega))
  · have hlr' : ¬ (ll : Int) < rr := by omega
    have h40 := ih (d - t1) (by omega) (g + 1000) H (by omega) zs t1 d lim rfl (by omega) (by omega) (by omega) (fun j j0 j1 j2 => by rw [ht']; exact g2.2 j (by omega) j2)
    rw [hzy] at h40
    have hF := And.intro (hlr') (hm)
    repeat (first | refine wD1 ?_ | refine wD2 ?_ | refine wE1 ?_ | refine wE2 ?_ | (refine wE3 ?_; intro _) | (refine wE4 ?_; intro _) | refine wN ?_ | ((with_reducible show evIs _ (_ :: _) _ _); first | refine wQ ?_ | refine wF ?_ | refine wG ?_ | refine wT ?_ | refine wM ?_ | refine wS ?_ | refine wP ?_ | refine wJ ?_ | refine wX ?_ | refine wY ?_ | refine wZ ?_))
    clear hF
    repeat refine evDone ?_
    try (show AW _ _ _ _ _)
    repeat refine AW.seq ?_
    refine AW.condF (by simp [hlr']) (by simp [hlr']) ?_
    repeat refine AW.seq ?_
    refine AW.reg ?_
    have hF := hm
    repeat (first | refine wD1 ?_ | refine wD2 ?_ | refine wE1 ?_ | refine wE2 ?_ | (refine wE3 ?_; intro _) | (refine wE4 ?_; intro _) | refine wN ?_ | ((with_reducible show evIs _ (_ :: _) _ _); first | refine wQ ?_ | refine wF ?_ | refine wG ?_ | refine wT ?_ | refine wM ?_ | refine wS ?_ | refine wP ?_ | refine wJ ?_ | refine wX ?_ | refine wY ?_ | refine wZ ?_))
    clear hF
    repeat refine evDone ?_
    try (show AW _ _ _ _ _)
    repeat refine AW.seq ?_
    refine AW.reg ?_
    have hF := And.intro (hwt1) (hm)
    repeat (first | refine wD1 ?_ | refine wD2 ?_ | refine wE1 ?_ | refine wE2 ?_ | (refine wE3 ?_; intro _) | (refine wE4 ?_; intro _) | refine wN ?_ | ((with_reducible show evIs _ (_ :: _) _ _); first | refine wQ ?_ | refine wF ?_ | refine wG ?_ | refine wT ?_ | refine wM ?_ | refine wS ?_ | refine wP ?_ | refine wJ ?_ | refine wX ?_ | refine wY ?_ | refine wZ ?_))
    clear hF
    repeat refine evDone ?_
    try (show AW _ _ _ _ _)
    have hF := hm
    refine wL (hA := h40) ?_
    clear hF
    rintro _ n1 _ ⟨ws, rfl, hn1, rfl, g3, g4⟩
    have hm1 : H < n1 ∧ (∀ q, H < n1 + q) ∧ (H = n1) = False ∧ (∀ q, (H = n1 + q) = False) ∧ (∀ q, (n1 + q = H) = False) := ⟨by omega, fun q => by omega, eq_false (by omega), fun q => eq_false (by omega), fun q => eq_false (by omega)⟩
    have hF := And.intro (hm) (hm1)
    repeat (first | refine wD1 ?_ | refine wD2 ?_ | refine wE1 ?_ | refine wE2 ?_ | (refine wE3 ?_; intro _) | (refine wE4 ?_; intro _) | refine wN ?_ | ((with_reducible show evIs _ (_ :: _) _ _); first | refine wQ ?_ | refine wF ?_ | refine wG ?_ | refine wT ?_ | refine wM ?_ | refine wS ?_ | refine wP ?_ | refine wJ ?_ | refine wX ?_ | refine wY ?_ | refine wZ ?_))
    clear hF
    repeat refine evDone ?_
    try (show AW _ _ _ _ _)
    show AW _ _ _ _ _
    refine AW.reg ?_
    have hF := And.intro (hm) (hm1)
    repeat (first | refine wD1 ?_ | refine wD2 ?_ | refine wE1 ?_ | refine wE2 ?_ | (refine wE3 ?_; intro _) | (refine wE4 ?_; intro _) | refine wN ?_ | ((with_reducible show evIs _ (_ :: _) _ _); first | refine wQ ?_ | refine wF ?_ | refine wG ?_ | refine wT ?_ | refine wM ?_ | refine wS ?_ | refine wP ?_ | refine wJ ?_ | refine wX ?_ | refine wY ?_ | refine wZ ?_))
    clear hF
    repeat refine evDone ?_
    try (show AW _ _ _ _ _)
    refine ⟨(ws, (c, t), lim, (decide ((e8 : Int) ≤ rr), f), n1), ⟨g3.len.trans hzy, hac, ht1, by dsimp only; omega, hs.trans (g3.wide (by omega) (by omega)), ord_right ho (ht' ▸ g3) (ht' ▸ g4) g2 hac ht1 ht2 hdb, by dsimp only; omega⟩, by dsimp only; omega, ?_⟩
    refine Fit.mk _ _ _ (by simp [hm, hm1, conv2, newEmp, convs_refl, convs, conv]) (by simp [hm, hm1, heapFit, newEmp, conv2s, conv2, convs_refl, convs, conv]) (by intro q hq; first | (simp at hq; done) | (simp at hq; omega) | (simp at hq; simp; omega))
end Go.Proofs.Ytljahaeachdjmaa
