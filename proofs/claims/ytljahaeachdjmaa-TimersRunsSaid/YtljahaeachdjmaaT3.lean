/- Chapter 37, twenty-third part: partitions. -/
import Derived.Test.YtljahaeachdjmaaT1

set_option linter.unusedSimpArgs false
set_option linter.unusedVariables false
set_option maxHeartbeats 8000000
namespace Go.Proofs.Ytljahaeachdjmaa
open Go Go.Amb Go.IntWalk

theorem AW.cutE {P : Program} {n : Nat} {γ : Type} {x y : ACode} {st : St} {Q : AE → St → Prop} (S : γ → St) (I : γ → Prop) (h : AW P n x st (fun e s => e = .normal ∧ ∃ g, I g ∧ Fit s (S g))) (k : ∀ g, I g → AW P n y (S g) Q) : AW P n (.seq x y) st Q :=
  AW.seq (AW.mono h fun e s ⟨he, g, hg, hf⟩ => by subst he; exact AW.fit hf (k g hg))
theorem f48 (N H : Nat) (hH : H < N) (xs : List Item) (a b pv : Nat) (hab : a < b) (hb : b ≤ xs.length) (hl : xs.length ≤ 200) (hp1 : a ≤ pv) (hp2 : pv < b) :
    BCall Try.prog 48 [(H, ⟨2, false, xs.map Item.av⟩)] N [.hdr H 0 xs.length, .int .i64 a, .int .i64 b, .int .i64 pv, .fn 35 []] (SP N H fun ys v => ∃ (m : Nat), v = .int .i64 m ∧ a < m ∧ m ≤ b ∧ Sam a b xs ys ∧ (∀ k, a ≤ k → k < m → Ple (it ys k) (it xs pv)) ∧ ∀ k, m ≤ k → k < b → Ple (it xs pv) (it ys k)) := by
  have hN : (∀ q, (H = N + q) = False) ∧ (∀ q, (N + q = H) = False) ∧ (H = N) = False ∧ (N = H) = False ∧ (∀ q, H < N + q) ∧ (∀ q, (N + q < N) = False) ∧ H < N := by
    refine ⟨?_, ?_, ?_, ?_, ?_, ?_, ?_⟩ <;> first | exact fun q => eq_false (by omega) | exact eq_false (by omega) | exact fun q => by omega | omega
  refine bcall_coded a48_ok (by simp) ?_
  generalize hn : xs.length = n at *
  rw [mkS_eq]
  obtain ⟨i0, hi0⟩ : ∃ i, i = a + 1 := ⟨_, rfl⟩
  obtain ⟨j0, hj0⟩ : ∃ j, b = j + 1 := ⟨b - 1, by omega⟩
  have hwi : IntKind.i64.wrap ((a : Int) + 1) = (i0 : Int) := by rw [show (a : Int) + 1 = (i0 : Int) by omega]; exact i64_in _ ⟨by omega, by omega⟩
  have hwj : IntKind.i64.wrap ((b : Int) - 1) = (j0 : Int) := by rw [show (b : Int) - 1 = (j0 : Int) by omega]; exact i64_in _ ⟨by omega, by omega⟩
  have haa : (0 : Int) ≤ a := by omega
  have hab : (a : Int) < n := by omega
  have hac : a < n := by omega
  have hae := it_av (xs := xs) (i := a) (by omega)
  have hpva : (0 : Int) ≤ pv := by omega
  have hpvb : (pv : Int) < n := by omega
  have hpvc : pv < n := by omega
  have hpve := it_av (xs := xs) (i := pv) (by omega)
  have hse := it_av (xs := xs.set a (it xs pv)) (i := pv) (by simp; omega)
  rw [← set_av] at hse
  repeat refine AW.seq ?_
  refine AW.reg ?_
  have hF := hN
  repeat (first | refine wD1 ?_ | refine wD2 ?_ | refine wE1 ?_ | refine wE2 ?_ | (refine wE3 ?_; intro _) | (refine wE4 ?_; intro _) | refine wN ?_ | ((with_reducible show evIs _ (_ :: _) _ _); first | refine wQ ?_ | refine wF ?_ | refine wG ?_ | refine wT ?_ | refine wM ?_ | refine wS ?_ | refine wP ?_ | refine wJ ?_ | refine wX ?_ | refine wY ?_ | refine wZ ?_))
  clear hF
  repeat refine evDone ?_
  try (show AW _ _ _ _ _)
  repeat refine AW.seq ?_
  refine AW.draw ?_
  have hF := And.intro (hn) (And.intro (haa) (And.intro (hab) (And.intro (hac) (And.intro (hae) (And.intro (hpva) (And.intro (hpvb) (And.intro (hpvc) (And.intro (hpve) (And.intro (hse) (hN))))))))))
  repeat (first | refine wD1 ?_ | refine wD2 ?_ | refine wE1 ?_ | refine wE2 ?_ | (refine wE3 ?_; intro _) | (refine wE4 ?_; intro _) | refine wN ?_ | ((with_reducible show evIs _ (_ :: _) _ _); first | refine wQ ?_ | refine wF ?_ | refine wG ?_ | refine wT ?_ | refine wM ?_ | refine wS ?_ | refine wP ?_ | refine wJ ?_ | refine wX ?_ | refine wY ?_ | refine wZ ?_))
  clear hF
  repeat refine evDone ?_
  try (show AW _ _ _ _ _)
  repeat refine AW.seq ?_
  refine AW.reg ?_
  have hF := And.intro (hwi) (And.intro (hwj) (hN))
  repeat (first | refine wD1 ?_ | refine wD2 ?_ | refine wE1 ?_ | refine wE2 ?_ | (refine wE3 ?_; intro _) | (refine wE4 ?_; intro _) | refine wN ?_ | ((with_reducible show evIs _ (_ :: _) _ _); first | refine wQ ?_ | refine wF ?_ | refine wG ?_ | refine wT ?_ | refine wM ?_ | refine wS ?_ | refine wP ?_ | refine wJ ?_ | refine wX ?_ | refine wY ?_ | refine wZ ?_))
  clear hF
  repeat refine evDone ?_
  try (show AW _ _ _ _ _)
  have hy : (swap xs a pv).length = n := by rw [swap_len]; exact hn
  have hs : Sam a b xs (swap xs a pv) := (Sam.refl a b xs).swap (by omega) (by omega) hp1 hp2 (by omega)
  have hpv : it (swap xs a pv) a = it xs pv := it_sw1 (by omega) (by omega)
  have hpi : QI a b i0 j0 (swap xs a pv) := ⟨fun k h1 h2 => by rw [show k = a by omega]; exact Ple.refl _, fun k h1 h2 => absurd h2 (by omega)⟩
  repeat refine AW.seq ?_
  refine AW.block ?_
  refine AW.loop (fun g : List Item × Nat × Nat => g.1.length = n ∧ a < g.2.1 ∧ g.2.1 ≤ g.2.2 + 1 ∧ g.2.2 < b ∧ Sam a b xs g.1 ∧ QI a b g.2.1 g.2.2 g.1 ∧ it g.1 a = it xs pv) (fun g => mkS [(0, .hdr H 0 n), (1, .int .i64 a), (2, .int .i64 b), (3, .int .i64 pv), (4, .fn 35 []), (10, .int .i64 0), (11, .int .i64 g.2.1), (12, .int .i64 g.2.2)] [(H, ⟨2, false, g.1.map Item.av⟩)] N) (fun g => g.2.2 + 1 - g.2.1) (swap xs a pv, i0, j0) ⟨hy, by dsimp only; omega, by dsimp only; omega, by dsimp only; omega, hs, hpi, hpv⟩ ?_ ?_
  · refine Fit.mk _ _ _ (by simp [swap, Item.av, hN, conv2, newEmp, convs_refl, convs, conv]) (by simp [swap, Item.av, hN, heapFit, newEmp, conv2s, conv2, convs_refl, convs, conv]) (by intro q hq; first | (simp at hq; done) | (simp at hq; omega) | (simp at hq; simp; omega))
  rintro ⟨ys, i, j⟩ ⟨hy, hai, hij, hjb, hs, hpi, hpv⟩
  dsimp only at hy hai hij hjb hs hpi hpv ⊢
  obtain ⟨i9, hi9⟩ : ∃ i9, i9 = i := ⟨_, rfl⟩
  obtain ⟨j9, hj9⟩ : ∃ j9, j9 = j := ⟨_, rfl⟩
  refine AW.block ?_
  rw [mkS_eq]
  refine AW.cutE (fun g : Nat => mkS [(0, .hdr H 0 n), (1, .int .i64 a), (2, .int .i64 b), (3, .int .i64 pv), (4, .fn 35 []), (10, .int .i64 0), (11, .int .i64 g), (12, .int .i64 j)] [(H, ⟨2, false, ys.map Item.av⟩)] N) (fun g : Nat => i ≤ g ∧ g ≤ j + 1 ∧ QI a b g j ys ∧ (g ≤ j → bef (it ys a) (it ys g) = true)) ?_ ?_
  · refine AW.block ?_
    refine AW.loop (fun g : Nat => i ≤ g ∧ g ≤ j + 1 ∧ QI a b g j ys) (fun g => mkS [(0, .hdr H 0 n), (1, .int .i64 a), (2, .int .i64 b), (3, .int .i64 pv), (4, .fn 35 []), (10, .int .i64 0), (11, .int .i64 g), (12, .int .i64 j)] [(H, ⟨2, false, ys.map Item.av⟩)] N) (fun g => b - g) i ⟨by omega, by omega, hpi⟩ ?_ ?_
    · refine Fit.mk _ _ _ (by simp [hN, conv2, newEmp, convs_refl, convs, conv]) (by simp [hN, heapFit, newEmp, conv2s, conv2, convs_refl, convs, conv]) (by intro q hq; first | (simp at hq; done) | (simp at hq; omega) | (simp at hq; simp; omega))
    rintro k ⟨hk1, hk2, hkp⟩
    by_cases hkj : k ≤ j
    · have hkj' : (k : Int) ≤ j := by omega
      obtain ⟨q, hq⟩ : ∃ q, q = k + 1 := ⟨_, rfl⟩
      have hwk : IntKind.i64.wrap ((k : Int) + 1) = (q : Int) := by rw [show (k : Int) + 1 = (q : Int) by omega]; exact i64_in _ ⟨by omega, by omega⟩
      have hka : (0 : Int) ≤ k := by omega
      have hkb : (k : Int) < n := by omega
      have hkc : k < n := by omega
      have hke := it_av (xs := ys) (i := k) (by omega)
      have haa : (0 : Int) ≤ a := by omega
      have hab : (a : Int) < n := by omega
      have hac : a < n := by omega
      have hae := it_av (xs := ys) (i := a) (by omega)
      cases hc : bef (it ys a) (it ys k) with
      | false =>
        have h35 := c35f hc
        repeat refine AW.seq ?_
        refine AW.draw ?_
        have hF := And.intro (hkj') (And.intro (hy) (And.intro (hka) (And.intro (hkb) (And.intro (hkc) (And.intro (hke) (And.intro (haa) (And.intro (hab) (And.intro (hac) (And.intro (hae) (hN))))))))))
        repeat (first | refine wD1 ?_ | refine wD2 ?_ | refine wE1 ?_ | refine wE2 ?_ | (refine wE3 ?_; intro _) | (refine wE4 ?_; intro _) | refine wN ?_ | ((with_reducible show evIs _ (_ :: _) _ _); first | refine wQ ?_ | refine wF ?_ | refine wG ?_ | refine wT ?_ | refine wM ?_ | refine wS ?_ | refine wP ?_ | refine wJ ?_ | refine wX ?_ | refine wY ?_ | refine wZ ?_))
        clear hF
        repeat refine evDone ?_
        try (show AW _ _ _ _ _)
        have hF := hN
        refine wV (hA := h35) ?_
        clear hF
        have hF := And.intro (hkj') (And.intro (hy) (And.intro (hka) (And.intro (hkb) (And.intro (hkc) (And.intro (hke) (And.intro (haa) (And.intro (hab) (And.intro (hac) (And.intro (hae) (hN))))))))))
        repeat (first | refine wD1 ?_ | refine wD2 ?_ | refine wE1 ?_ | refine wE2 ?_ | (refine wE3 ?_; intro _) | (refine wE4 ?_; intro _) | refine wN ?_ | ((with_reducible show evIs _ (_ :: _) _ _); first | refine wQ ?_ | refine wF ?_ | refine wG ?_ | refine wT ?_ | refine wM ?_ | refine wS ?_ | refine wP ?_ | refine wJ ?_ | refine wX ?_ | refine wY ?_ | refine wZ ?_))
        clear hF
        repeat refine evDone ?_
        try (show AW _ _ _ _ _)
        repeat refine AW.seq ?_
        refine AW.condT (by simp []) (by simp []) ?_
        refine AW.skip ?_
        show AW _ _ _ _ _
        refine AW.block ?_
        repeat refine AW.seq ?_
        refine AW.reg ?_
        have hF := And.intro (hwk) (hN)
        repeat (first | refine wD1 ?_ | refine wD2 ?_ | refine wE1 ?_ | refine wE2 ?_ | (refine wE3 ?_; intro _) | (refine wE4 ?_; intro _) | refine wN ?_ | ((with_reducible show evIs _ (_ :: _) _ _); first | refine wQ ?_ | refine wF ?_ | refine wG ?_ | refine wT ?_ | refine wM ?_ | refine wS ?_ | refine wP ?_ | refine wJ ?_ | refine wX ?_ | refine wY ?_ | refine wZ ?_))
        clear hF
        repeat refine evDone ?_
        try (show AW _ _ _ _ _)
        refine ⟨q, ⟨by omega, by omega, by subst hq; exact qi_i hkp hc⟩, by omega, ?_⟩
        refine Fit.mk _ _ _ (by simp [hwk, hN, conv2, newEmp, convs_refl, convs, conv]) (by simp [hwk, hN, heapFit, newEmp, conv2s, conv2, convs_refl, convs, conv]) (by intro q hq; first | (simp at hq; done) | (simp at hq; omega) | (simp at hq; simp; omega))
      | true =>
        have h35 := c35t hc
        repeat refine AW.seq ?_
        refine AW.draw ?_
        have hF := And.intro (hkj') (And.intro (hy) (And.intro (hka) (And.intro (hkb) (And.intro (hkc) (And.intro (hke) (And.intro (haa) (And.intro (hab) (And.intro (hac) (And.intro (hae) (hN))))))))))
        repeat (first | refine wD1 ?_ | refine wD2 ?_ | refine wE1 ?_ | refine wE2 ?_ | (refine wE3 ?_; intro _) | (refine wE4 ?_; intro _) | refine wN ?_ | ((with_reducible show evIs _ (_ :: _) _ _); first | refine wQ ?_ | refine wF ?_ | refine wG ?_ | refine wT ?_ | refine wM ?_ | refine wS ?_ | refine wP ?_ | refine wJ ?_ | refine wX ?_ | refine wY ?_ | refine wZ ?_))
        clear hF
        repeat refine evDone ?_
        try (show AW _ _ _ _ _)
        have hF := hN
        refine wV (hA := h35) ?_
        clear hF
        have hF := And.intro (hkj') (And.intro (hy) (And.intro (hka) (And.intro (hkb) (And.intro (hkc) (And.intro (hke) (And.intro (haa) (And.intro (hab) (And.intro (hac) (And.intro (hae) (hN))))))))))
        repeat (first | refine wD1 ?_ | refine wD2 ?_ | refine wE1 ?_ | refine wE2 ?_ | (refine wE3 ?_; intro _) | (refine wE4 ?_; intro _) | refine wN ?_ | ((with_reducible show evIs _ (_ :: _) _ _); first | refine wQ ?_ | refine wF ?_ | refine wG ?_ | refine wT ?_ | refine wM ?_ | refine wS ?_ | refine wP ?_ | refine wJ ?_ | refine wX ?_ | refine wY ?_ | refine wZ ?_))
        clear hF
        repeat refine evDone ?_
        try (show AW _ _ _ _ _)
        repeat refine AW.seq ?_
        refine AW.condF (by simp []) (by simp []) ?_
        refine AW.exit ?_
        refine ⟨rfl, k, ⟨hk1, hk2, hkp, fun _ => hc⟩, ?_⟩
        refine Fit.mk _ _ _ (by simp [hN, conv2, newEmp, convs_refl, convs, conv]) (by simp [hN, heapFit, newEmp, conv2s, conv2, convs_refl, convs, conv]) (by intro q hq; first | (simp at hq; done) | (simp at hq; omega) | (simp at hq; simp; omega))
    · have hkj' : ¬ (k : Int) ≤ j := by omega
      repeat refine AW.seq ?_
      refine AW.draw ?_
      have hF := And.intro (hkj') (hN)
      repeat (first | refine wD1 ?_ | refine wD2 ?_ | refine wE1 ?_ | refine wE2 ?_ | refine wE6 ?_ | refine wE7 ?_ | refine wE5 ?_ | refine wN ?_ | ((with_reducible show evIs _ (_ :: _) _ _); first | refine wQ ?_ | refine wF ?_ | refine wG ?_ | refine wT ?_ | refine wM ?_ | refine wS ?_ | refine wP ?_ | refine wJ ?_ | refine wX ?_ | refine wY ?_ | refine wZ ?_))
      clear hF
      repeat refine evDone ?_
      try (show AW _ _ _ _ _)
      repeat refine AW.seq ?_
      refine AW.condF (by simp []) (by simp []) ?_
      refine AW.exit ?_
      refine ⟨rfl, k, ⟨hk1, hk2, hkp, fun h => absurd h hkj⟩, ?_⟩
      refine Fit.mk _ _ _ (by simp [hN, conv2, newEmp, convs_refl, convs, conv]) (by simp [hN, heapFit, newEmp, conv2s, conv2, convs_refl, convs, conv]) (by intro q hq; first | (simp at hq; done) | (simp at hq; omega) | (simp at hq; simp; omega))
  rintro i1 ⟨hi1, hi2, hpi, hei⟩
  have hai : a < i1 := by omega
  obtain ⟨i, hie⟩ : ∃ i, i = i1 := ⟨_, rfl⟩
  rw [← hie] at hi1 hi2 hpi hei hai ⊢
  rw [mkS_eq]
  refine AW.cutE (fun g : Nat => mkS [(0, .hdr H 0 n), (1, .int .i64 a), (2, .int .i64 b), (3, .int .i64 pv), (4, .fn 35 []), (10, .int .i64 0), (11, .int .i64 i), (12, .int .i64 g)] [(H, ⟨2, false, ys.map Item.av⟩)] N) (fun g : Nat => g ≤ j ∧ i ≤ g + 1 ∧ QI a b i g ys ∧ (i ≤ g → bef (it ys a) (it ys g) = false)) ?_ ?_
  · refine AW.block ?_
    refine AW.loop (fun g : Nat => g ≤ j ∧ i ≤ g + 1 ∧ QI a b i g ys) (fun g => mkS [(0, .hdr H 0 n), (1, .int .i64 a), (2, .int .i64 b), (3, .int .i64 pv), (4, .fn 35 []), (10, .int .i64 0), (11, .int .i64 i), (12, .int .i64 g)] [(H, ⟨2, false, ys.map Item.av⟩)] N) (fun g => g) j ⟨by omega, by omega, hpi⟩ ?_ ?_
    · refine Fit.mk _ _ _ (by simp [hN, conv2, newEmp, convs_refl, convs, conv]) (by simp [hN, heapFit, newEmp, conv2s, conv2, convs_refl, convs, conv]) (by intro q hq; first | (simp at hq; done) | (simp at hq; omega) | (simp at hq; simp; omega))
    rintro k ⟨hk1, hk2, hkp⟩
    by_cases hkj : i ≤ k
    · have hkj' : (i : Int) ≤ k := by omega
      obtain ⟨q, hq⟩ : ∃ q, k = q + 1 := ⟨k - 1, by omega⟩
      have hwk : IntKind.i64.wrap ((k : Int) - 1) = (q : Int) := by rw [show (k : Int) - 1 = (q : Int) by omega]; exact i64_in _ ⟨by omega, by omega⟩
      have hka : (0 : Int) ≤ k := by omega
      have hkb : (k : Int) < n := by omega
      have hkc : k < n := by omega
      have hke := it_av (xs := ys) (i := k) (by omega)
      have haa : (0 : Int) ≤ a := by omega
      have hab : (a : Int) < n := by omega
      have hac : a < n := by omega
      have hae := it_av (xs := ys) (i := a) (by omega)
      cases hc : bef (it ys a) (it ys k) with
      | false =>
        have h35 := c35f hc
        repeat refine AW.seq ?_
        refine AW.draw ?_
        have hF := And.intro (hkj') (And.intro (hy) (And.intro (hka) (And.intro (hkb) (And.intro (hkc) (And.intro (hke) (And.intro (haa) (And.intro (hab) (And.intro (hac) (And.intro (hae) (hN))))))))))
        repeat (first | refine wD1 ?_ | refine wD2 ?_ | refine wE1 ?_ | refine wE2 ?_ | (refine wE3 ?_; intro _) | (refine wE4 ?_; intro _) | refine wN ?_ | ((with_reducible show evIs _ (_ :: _) _ _); first | refine wQ ?_ | refine wF ?_ | refine wG ?_ | refine wT ?_ | refine wM ?_ | refine wS ?_ | refine wP ?_ | refine wJ ?_ | refine wX ?_ | refine wY ?_ | refine wZ ?_))
        clear hF
        repeat refine evDone ?_
        try (show AW _ _ _ _ _)
        have hF := hN
        refine wV (hA := h35) ?_
        clear hF
        have hF := And.intro (hkj') (And.intro (hy) (And.intro (hka) (And.intro (hkb) (And.intro (hkc) (And.intro (hke) (And.intro (haa) (And.intro (hab) (And.intro (hac) (And.intro (hae) (hN))))))))))
        repeat (first | refine wD1 ?_ | refine wD2 ?_ | refine wE1 ?_ | refine wE2 ?_ | (refine wE3 ?_; intro _) | (refine wE4 ?_; intro _) | refine wN ?_ | ((with_reducible show evIs _ (_ :: _) _ _); first | refine wQ ?_ | refine wF ?_ | refine wG ?_ | refine wT ?_ | refine wM ?_ | refine wS ?_ | refine wP ?_ | refine wJ ?_ | refine wX ?_ | refine wY ?_ | refine wZ ?_))
        clear hF
        repeat refine evDone ?_
        try (show AW _ _ _ _ _)
        repeat refine AW.seq ?_
        refine AW.condF (by simp []) (by simp []) ?_
        refine AW.exit ?_
        refine ⟨rfl, k, ⟨hk1, hk2, hkp, fun _ => hc⟩, ?_⟩
        refine Fit.mk _ _ _ (by simp [hN, conv2, newEmp, convs_refl, convs, conv]) (by simp [hN, heapFit, newEmp, conv2s, conv2, convs_refl, convs, conv]) (by intro q hq; first | (simp at hq; done) | (simp at hq; omega) | (simp at hq; simp; omega))
      | true =>
        have h35 := c35t hc
        repeat refine AW.seq ?_
        refine AW.draw ?_
        have hF := And.intro (hkj') (And.intro (hy) (And.intro (hka) (And.intro (hkb) (And.intro (hkc) (And.intro (hke) (And.intro (haa) (And.intro (hab) (And.intro (hac) (And.intro (hae) (hN))))))))))
        repeat (first | refine wD1 ?_ | refine wD2 ?_ | refine wE1 ?_ | refine wE2 ?_ | (refine wE3 ?_; intro _) | (refine wE4 ?_; intro _) | refine wN ?_ | ((with_reducible show evIs _ (_ :: _) _ _); first | refine wQ ?_ | refine wF ?_ | refine wG ?_ | refine wT ?_ | refine wM ?_ | refine wS ?_ | refine wP ?_ | refine wJ ?_ | refine wX ?_ | refine wY ?_ | refine wZ ?_))
        clear hF
        repeat refine evDone ?_
        try (show AW _ _ _ _ _)
        have hF := hN
        refine wV (hA := h35) ?_
        clear hF
        have hF := And.intro (hkj') (And.intro (hy) (And.intro (hka) (And.intro (hkb) (And.intro (hkc) (And.intro (hke) (And.intro (haa) (And.intro (hab) (And.intro (hac) (And.intro (hae) (hN))))))))))
        repeat (first | refine wD1 ?_ | refine wD2 ?_ | refine wE1 ?_ | refine wE2 ?_ | (refine wE3 ?_; intro _) | (refine wE4 ?_; intro _) | refine wN ?_ | ((with_reducible show evIs _ (_ :: _) _ _); first | refine wQ ?_ | refine wF ?_ | refine wG ?_ | refine wT ?_ | refine wM ?_ | refine wS ?_ | refine wP ?_ | refine wJ ?_ | refine wX ?_ | refine wY ?_ | refine wZ ?_))
        clear hF
        repeat refine evDone ?_
        try (show AW _ _ _ _ _)
        repeat refine AW.seq ?_
        refine AW.condT (by simp []) (by simp []) ?_
        refine AW.skip ?_
        show AW _ _ _ _ _
        refine AW.block ?_
        repeat refine AW.seq ?_
        refine AW.reg ?_
        have hF := And.intro (hwk) (hN)
        repeat (first | refine wD1 ?_ | refine wD2 ?_ | refine wE1 ?_ | refine wE2 ?_ | (refine wE3 ?_; intro _) | (refine wE4 ?_; intro _) | refine wN ?_ | ((with_reducible show evIs _ (_ :: _) _ _); first | refine wQ ?_ | refine wF ?_ | refine wG ?_ | refine wT ?_ | refine wM ?_ | refine wS ?_ | refine wP ?_ | refine wJ ?_ | refine wX ?_ | refine wY ?_ | refine wZ ?_))
        clear hF
        repeat refine evDone ?_
        try (show AW _ _ _ _ _)
        refine ⟨q, ⟨by omega, by omega, by subst hq; exact qi_j hkp hc⟩, by omega, ?_⟩
        refine Fit.mk _ _ _ (by simp [hwk, hN, conv2, newEmp, convs_refl, convs, conv]) (by simp [hwk, hN, heapFit, newEmp, conv2s, conv2, convs_refl, convs, conv]) (by intro q hq; first | (simp at hq; done) | (simp at hq; omega) | (simp at hq; simp; omega))
    · have hkj' : ¬ (i : Int) ≤ k := by omega
      repeat refine AW.seq ?_
      refine AW.draw ?_
      have hF := And.intro (hkj') (hN)
      repeat (first | refine wD1 ?_ | refine wD2 ?_ | refine wE1 ?_ | refine wE2 ?_ | refine wE6 ?_ | refine wE7 ?_ | refine wE5 ?_ | refine wN ?_ | ((with_reducible show evIs _ (_ :: _) _ _); first | refine wQ ?_ | refine wF ?_ | refine wG ?_ | refine wT ?_ | refine wM ?_ | refine wS ?_ | refine wP ?_ | refine wJ ?_ | refine wX ?_ | refine wY ?_ | refine wZ ?_))
      clear hF
      repeat refine evDone ?_
      try (show AW _ _ _ _ _)
      repeat refine AW.seq ?_
      refine AW.condF (by simp []) (by simp []) ?_
      refine AW.exit ?_
      refine ⟨rfl, k, ⟨hk1, hk2, hkp, fun h => absurd h hkj⟩, ?_⟩
      refine Fit.mk _ _ _ (by simp [hN, conv2, newEmp, convs_refl, convs, conv]) (by simp [hN, heapFit, newEmp, conv2s, conv2, convs_refl, convs, conv]) (by intro q hq; first | (simp at hq; done) | (simp at hq; omega) | (simp at hq; simp; omega))
  rintro j1 ⟨hm1, hm2, hpi, hej⟩
  have hei : i ≤ j1 → _ := fun h => hei (by omega)
  have hjb : j1 < b := by omega
  obtain ⟨j, hje⟩ : ∃ j, j = j1 := ⟨_, rfl⟩
  rw [← hje] at hm1 hm2 hpi hei hej hjb ⊢
  rw [mkS_eq]
  repeat refine AW.seq ?_
  refine AW.reg ?_
  by_cases hmi : j < i
  · have hmi' : (j : Int) < i := by omega
    have hF := And.intro (hmi') (hN)
    repeat (first | refine wD1 ?_ | refine wD2 ?_ | refine wE1 ?_ | refine wE2 ?_ | (refine wE3 ?_; intro _) | (refine wE4 ?_; intro _) | refine wN ?_ | ((with_reducible show evIs _ (_ :: _) _ _); first | refine wQ ?_ | refine wF ?_ | refine wG ?_ | refine wT ?_ | refine wM ?_ | refine wS ?_ | refine wP ?_ | refine wJ ?_ | refine wX ?_ | refine wY ?_ | refine wZ ?_))
    clear hF
    repeat refine evDone ?_
    try (show AW _ _ _ _ _)
    repeat refine AW.seq ?_
    refine AW.condT (by simp [hmi']) (by simp [hmi']) ?_
    refine AW.exit ?_
    show AW _ _ _ _ _
    repeat refine AW.seq ?_
    refine AW.reg ?_
    have hF := hN
    repeat (first | refine wD1 ?_ | refine wD2 ?_ | refine wE1 ?_ | refine wE2 ?_ | (refine wE3 ?_; intro _) | (refine wE4 ?_; intro _) | refine wN ?_ | ((with_reducible show evIs _ (_ :: _) _ _); first | refine wQ ?_ | refine wF ?_ | refine wG ?_ | refine wT ?_ | refine wM ?_ | refine wS ?_ | refine wP ?_ | refine wJ ?_ | refine wX ?_ | refine wY ?_ | refine wZ ?_))
    clear hF
    repeat refine evDone ?_
    try (show AW _ _ _ _ _)
    refine AW.ret ⟨by simp [resP, a48_res, ARes.op, hN], [(H, ⟨2, false, ys.map Item.av⟩)], N + 1000, [.int .i64 i], ⟨ys, rfl, rfl, i, rfl, by omega, by omega, hs, fun k h1 h2 => hpv ▸ hpi.1 k h1 h2, fun k h1 h2 => hpv ▸ hpi.2 k (by omega) h2⟩, by omega, by simp [hN], rfl, by simp, ?_⟩
    simp only [resV, a48_res, List.map_cons, List.map_nil, ARes.op]
    refine Fit.mk _ _ _ (by simp [swap, Item.av, hN, conv2, newEmp, convs_refl, convs, conv]) (by simp [swap, Item.av, hN, heapFit, newEmp, conv2s, conv2, convs_refl, convs, conv]) (by intro q hq; first | (simp at hq; done) | (simp at hq; omega) | (simp at hq; simp; omega))
  · have hmi' : ¬ (j : Int) < i := by omega
    have him : i < j := by
      rcases Nat.lt_or_ge i j with h | h
      · exact h
      · have e : i = j := by omega
        have h1 := hei (by omega)
        have h2 := hej (by omega)
        rw [e] at h1
        rw [h1] at h2
        exact absurd h2 (by simp)
    obtain ⟨i2, hi2'⟩ : ∃ i2, i2 = i + 1 := ⟨_, rfl⟩
    obtain ⟨j2, hj2'⟩ : ∃ j2, j = j2 + 1 := ⟨j - 1, by omega⟩
    have hwi2 : IntKind.i64.wrap ((i : Int) + 1) = (i2 : Int) := by rw [show (i : Int) + 1 = (i2 : Int) by omega]; exact i64_in _ ⟨by omega, by omega⟩
    have hwm2 : IntKind.i64.wrap ((j : Int) - 1) = (j2 : Int) := by rw [show (j : Int) - 1 = (j2 : Int) by omega]; exact i64_in _ ⟨by omega, by omega⟩
    have hia : (0 : Int) ≤ i := by omega
    have hib : (i : Int) < n := by omega
    have hic : i < n := by omega
    have hie := it_av (xs := ys) (i := i) (by omega)
    have hja : (0 : Int) ≤ j := by omega
    have hjb : (j : Int) < n := by omega
    have hjc : j < n := by omega
    have hje := it_av (xs := ys) (i := j) (by omega)
    have hF := And.intro (hmi') (hN)
    repeat (first | refine wD1 ?_ | refine wD2 ?_ | refine wE1 ?_ | refine wE2 ?_ | (refine wE3 ?_; intro _) | (refine wE4 ?_; intro _) | refine wN ?_ | ((with_reducible show evIs _ (_ :: _) _ _); first | refine wQ ?_ | refine wF ?_ | refine wG ?_ | refine wT ?_ | refine wM ?_ | refine wS ?_ | refine wP ?_ | refine wJ ?_ | refine wX ?_ | refine wY ?_ | refine wZ ?_))
    clear hF
    repeat refine evDone ?_
    try (show AW _ _ _ _ _)
    repeat refine AW.seq ?_
    refine AW.condF (by simp [hmi']) (by simp [hmi']) ?_
    refine AW.skip ?_
    show AW _ _ _ _ _
    have hse := it_av (xs := ys.set i (it ys j)) (i := j) (by simp; omega)
    rw [← set_av] at hse
    repeat refine AW.seq ?_
    refine AW.draw ?_
    have hF := And.intro (hy) (And.intro (hia) (And.intro (hib) (And.intro (hic) (And.intro (hie) (And.intro (hja) (And.intro (hjb) (And.intro (hjc) (And.intro (hje) (And.intro (hse) (hN))))))))))
    repeat (first | refine wD1 ?_ | refine wD2 ?_ | refine wE1 ?_ | refine wE2 ?_ | (refine wE3 ?_; intro _) | (refine wE4 ?_; intro _) | refine wN ?_ | ((with_reducible show evIs _ (_ :: _) _ _); first | refine wQ ?_ | refine wF ?_ | refine wG ?_ | refine wT ?_ | refine wM ?_ | refine wS ?_ | refine wP ?_ | refine wJ ?_ | refine wX ?_ | refine wY ?_ | refine wZ ?_))
    clear hF
    repeat refine evDone ?_
    try (show AW _ _ _ _ _)
    repeat refine AW.seq ?_
    refine AW.reg ?_
    have hF := And.intro (hwi2) (hN)
    repeat (first | refine wD1 ?_ | refine wD2 ?_ | refine wE1 ?_ | refine wE2 ?_ | (refine wE3 ?_; intro _) | (refine wE4 ?_; intro _) | refine wN ?_ | ((with_reducible show evIs _ (_ :: _) _ _); first | refine wQ ?_ | refine wF ?_ | refine wG ?_ | refine wT ?_ | refine wM ?_ | refine wS ?_ | refine wP ?_ | refine wJ ?_ | refine wX ?_ | refine wY ?_ | refine wZ ?_))
    clear hF
    repeat refine evDone ?_
    try (show AW _ _ _ _ _)
    repeat refine AW.seq ?_
    refine AW.reg ?_
    have hF := And.intro (hwm2) (hN)
    repeat (first | refine wD1 ?_ | refine wD2 ?_ | refine wE1 ?_ | refine wE2 ?_ | (refine wE3 ?_; intro _) | (refine wE4 ?_; intro _) | refine wN ?_ | ((with_reducible show evIs _ (_ :: _) _ _); first | refine wQ ?_ | refine wF ?_ | refine wG ?_ | refine wT ?_ | refine wM ?_ | refine wS ?_ | refine wP ?_ | refine wJ ?_ | refine wX ?_ | refine wY ?_ | refine wZ ?_))
    clear hF
    repeat refine evDone ?_
    try (show AW _ _ _ _ _)
    have hpv2 : it (swap ys i j) a = it ys a := it_sw3 (by omega) (by omega) (by omega) (by omega)
    refine ⟨(swap ys i j, i2, j2), ⟨by rw [swap_len]; exact hy, by dsimp only; omega, by dsimp only; omega, by dsimp only; omega, hs.swap (by omega) (by omega) (by omega) (by omega) (by omega), ?_, hpv2.trans hpv⟩, by dsimp only; omega, ?_⟩
    · subst hj2'; subst hi2'
      exact qi_sw hpi (by omega) (by omega) (by omega) (by omega) (hei (by omega)) (hej (by omega))
    refine Fit.mk _ _ _ (by simp [swap, Item.av, hN, conv2, newEmp, convs_refl, convs, conv]) (by simp [swap, Item.av, hN, heapFit, newEmp, conv2s, conv2, convs_refl, convs, conv]) (by intro q hq; first | (simp at hq; done) | (simp at hq; omega) | (simp at hq; simp; omega))
end Go.Proofs.Ytljahaeachdjmaa
