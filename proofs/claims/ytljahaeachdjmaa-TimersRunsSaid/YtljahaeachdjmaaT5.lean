/- Chapter 37, twenty-fifth part: partial insertion sort. -/
import Derived.Test.YtljahaeachdjmaaT3

set_option linter.unusedSimpArgs false
set_option linter.unusedVariables false
set_option maxHeartbeats 8000000
namespace Go.Proofs.Ytljahaeachdjmaa
open Go Go.Amb Go.IntWalk

theorem AW.endE {P : Program} {n : Nat} {γ : Type} {x : ACode} {st : St} {Q : AE → St → Prop} (S : γ → St) (I : γ → Prop) (h : AW P n x st (fun e s => e = .normal ∧ ∃ g, I g ∧ Fit s (S g))) (k : ∀ g, I g → Q .normal (S g)) : AW P n x st Q :=
  AW.out (AW.mono h fun e s ⟨he, g, hg, hf⟩ => by subst he; exact ⟨S g, hf, k g hg⟩)
theorem f47 (N H : Nat) (hH : H < N) (xs : List Item) (a b : Nat) (hab : a < b) (hb : b ≤ xs.length) (hl : xs.length ≤ 200) (hpre : Pre a b xs) :
    BCall Try.prog 47 [(H, ⟨2, false, xs.map Item.av⟩)] N [.hdr H 0 xs.length, .int .i64 a, .int .i64 b, .fn 35 []] (SP N H fun ys v => ∃ (f : Bool), v = .bool f ∧ Sam a b xs ys ∧ (f = true → Srt a b ys)) := by
  have hN : (∀ q, (H = N + q) = False) ∧ (∀ q, (N + q = H) = False) ∧ (H = N) = False ∧ (N = H) = False ∧ (∀ q, H < N + q) ∧ (∀ q, (N + q < N) = False) ∧ H < N := by
    refine ⟨?_, ?_, ?_, ?_, ?_, ?_, ?_⟩ <;> first | exact fun q => eq_false (by omega) | exact eq_false (by omega) | exact fun q => by omega | omega
  refine bcall_coded a47_ok (by simp) ?_
  generalize hn : xs.length = n at *
  rw [mkS_eq]
  obtain ⟨i0, hi0⟩ : ∃ i, i = a + 1 := ⟨_, rfl⟩
  have hwi0 : IntKind.i64.wrap ((a : Int) + 1) = (i0 : Int) := by rw [show (a : Int) + 1 = (i0 : Int) by omega]; exact i64_in _ ⟨by omega, by omega⟩
  obtain ⟨l, hle⟩ : ∃ l, b = a + l := ⟨b - a, by omega⟩
  have hwl : IntKind.i64.wrap ((b : Int) - (a : Int)) = (l : Int) := by rw [show (b : Int) - (a : Int) = (l : Int) by omega]; exact i64_in _ ⟨by omega, by omega⟩
  repeat refine AW.seq ?_
  refine AW.reg ?_
  have hF := hN
  repeat (first | refine wD1 ?_ | refine wD2 ?_ | refine wE1 ?_ | refine wE2 ?_ | (refine wE3 ?_; intro _) | (refine wE4 ?_; intro _) | refine wN ?_ | ((with_reducible show evIs _ (_ :: _) _ _); first | refine wQ ?_ | refine wF ?_ | refine wG ?_ | refine wT ?_ | refine wM ?_ | refine wS ?_ | refine wP ?_ | refine wJ ?_ | refine wX ?_ | refine wY ?_ | refine wZ ?_))
  clear hF
  repeat refine evDone ?_
  try (show AW _ _ _ _ _)
  repeat refine AW.seq ?_
  refine AW.reg ?_
  have hF := And.intro (hwi0) (hN)
  repeat (first | refine wD1 ?_ | refine wD2 ?_ | refine wE1 ?_ | refine wE2 ?_ | (refine wE3 ?_; intro _) | (refine wE4 ?_; intro _) | refine wN ?_ | ((with_reducible show evIs _ (_ :: _) _ _); first | refine wQ ?_ | refine wF ?_ | refine wG ?_ | refine wT ?_ | refine wM ?_ | refine wS ?_ | refine wP ?_ | refine wJ ?_ | refine wX ?_ | refine wY ?_ | refine wZ ?_))
  clear hF
  repeat refine evDone ?_
  try (show AW _ _ _ _ _)
  repeat refine AW.seq ?_
  refine AW.reg ?_
  have hF := hN
  repeat (first | refine wD1 ?_ | refine wD2 ?_ | refine wE1 ?_ | refine wE2 ?_ | (refine wE3 ?_; intro _) | (refine wE4 ?_; intro _) | refine wN ?_ | ((with_reducible show evIs _ (_ :: _) _ _); first | refine wQ ?_ | refine wF ?_ | refine wG ?_ | refine wT ?_ | refine wM ?_ | refine wS ?_ | refine wP ?_ | refine wJ ?_ | refine wX ?_ | refine wY ?_ | refine wZ ?_))
  clear hF
  repeat refine evDone ?_
  try (show AW _ _ _ _ _)
  repeat refine AW.seq ?_
  refine AW.block ?_
  refine AW.loop (fun g : List Item × Nat × Nat => g.1.length = n ∧ a < g.2.1 ∧ g.2.1 ≤ b ∧ g.2.2 ≤ 5 ∧ Sam a b xs g.1 ∧ Srt a g.2.1 g.1) (fun g => mkS [(0, .hdr H 0 n), (1, .int .i64 a), (2, .int .i64 b), (3, .fn 35 []), (8, .bool false), (9, .int .i64 g.2.1), (10, .int .i64 g.2.2)] [(H, ⟨2, false, g.1.map Item.av⟩)] N) (fun g => 5 - g.2.2) (xs, i0, 0) ⟨hn, by dsimp only; omega, by dsimp only; omega, by simp, Sam.refl _ _ _, srt_one (by dsimp only; omega)⟩ ?_ ?_
  · refine Fit.mk _ _ _ (by simp [hN, conv2, newEmp, convs_refl, convs, conv]) (by simp [hN, heapFit, newEmp, conv2s, conv2, convs_refl, convs, conv]) (by intro q hq; first | (simp at hq; done) | (simp at hq; omega) | (simp at hq; simp; omega))
  rintro ⟨ys, i, c⟩ ⟨hy, hai, hibn, hc5, hs, hr⟩
  dsimp only at hy hai hibn hc5 hs hr ⊢
  by_cases hc : c < 5
  · have hc' : (c : Int) < 5 := by omega
    obtain ⟨c1, hc1⟩ : ∃ c1, c1 = c + 1 := ⟨_, rfl⟩
    have hwc : IntKind.i64.wrap ((c : Int) + 1) = (c1 : Int) := by rw [show (c : Int) + 1 = (c1 : Int) by omega]; exact i64_in _ ⟨by omega, by omega⟩
    repeat refine AW.seq ?_
    refine AW.reg ?_
    have hF := And.intro (hc') (hN)
    repeat (first | refine wD1 ?_ | refine wD2 ?_ | refine wE1 ?_ | refine wE2 ?_ | (refine wE3 ?_; intro _) | (refine wE4 ?_; intro _) | refine wN ?_ | ((with_reducible show evIs _ (_ :: _) _ _); first | refine wQ ?_ | refine wF ?_ | refine wG ?_ | refine wT ?_ | refine wM ?_ | refine wS ?_ | refine wP ?_ | refine wJ ?_ | refine wX ?_ | refine wY ?_ | refine wZ ?_))
    clear hF
    repeat refine evDone ?_
    try (show AW _ _ _ _ _)
    repeat refine AW.seq ?_
    refine AW.condT (by simp [hc']) (by simp [hc']) ?_
    refine AW.skip ?_
    show AW _ _ _ _ _
    refine AW.seq (AW.block ?_)
    refine AW.cutE (fun g : Nat => mkS [(0, .hdr H 0 n), (1, .int .i64 a), (2, .int .i64 b), (3, .fn 35 []), (8, .bool false), (9, .int .i64 g), (10, .int .i64 c)] [(H, ⟨2, false, ys.map Item.av⟩)] N) (fun g : Nat => a < g ∧ g ≤ b ∧ Srt a g ys ∧ (g < b → bef (it ys g) (it ys (g - 1)) = true)) ?_ ?_
    · refine AW.block ?_
      refine AW.loop (fun g : Nat => a < g ∧ g ≤ b ∧ Srt a g ys) (fun g => mkS [(0, .hdr H 0 n), (1, .int .i64 a), (2, .int .i64 b), (3, .fn 35 []), (8, .bool false), (9, .int .i64 g), (10, .int .i64 c)] [(H, ⟨2, false, ys.map Item.av⟩)] N) (fun g => b - g) i ⟨hai, hibn, hr⟩ ?_ ?_
      · refine Fit.mk _ _ _ (by simp [hN, conv2, newEmp, convs_refl, convs, conv]) (by simp [hN, heapFit, newEmp, conv2s, conv2, convs_refl, convs, conv]) (by intro q hq; first | (simp at hq; done) | (simp at hq; omega) | (simp at hq; simp; omega))
      rintro k ⟨hk1, hk2, hk3⟩
      by_cases hkj : k < b
      · have hkj' : (k : Int) < b := by omega
        obtain ⟨e, he⟩ : ∃ e, e = k + 1 := ⟨_, rfl⟩
        obtain ⟨p, hp⟩ : ∃ p, k = p + 1 := ⟨k - 1, by omega⟩
        have hp2 : k - 1 = p := by omega
        have hwe : IntKind.i64.wrap ((k : Int) + 1) = (e : Int) := by rw [show (k : Int) + 1 = (e : Int) by omega]; exact i64_in _ ⟨by omega, by omega⟩
        have hwp : IntKind.i64.wrap ((k : Int) - 1) = (p : Int) := by rw [show (k : Int) - 1 = (p : Int) by omega]; exact i64_in _ ⟨by omega, by omega⟩
        have hka : (0 : Int) ≤ k := by omega
        have hkb : (k : Int) < n := by omega
        have hkc : k < n := by omega
        have hke := it_av (xs := ys) (i := k) (by omega)
        have hpa : (0 : Int) ≤ p := by omega
        have hpb : (p : Int) < n := by omega
        have hpc : p < n := by omega
        have hpe := it_av (xs := ys) (i := p) (by omega)
        cases hc : bef (it ys k) (it ys p) with
        | true =>
          have h35 := c35t hc
          repeat refine AW.seq ?_
          refine AW.draw ?_
          have hF := And.intro (hkj') (And.intro (hwp) (And.intro (hy) (And.intro (hka) (And.intro (hkb) (And.intro (hkc) (And.intro (hke) (And.intro (hpa) (And.intro (hpb) (And.intro (hpc) (And.intro (hpe) (hN)))))))))))
          repeat (first | refine wD1 ?_ | refine wD2 ?_ | refine wE1 ?_ | refine wE2 ?_ | (refine wE3 ?_; intro _) | (refine wE4 ?_; intro _) | refine wN ?_ | ((with_reducible show evIs _ (_ :: _) _ _); first | refine wQ ?_ | refine wF ?_ | refine wG ?_ | refine wT ?_ | refine wM ?_ | refine wS ?_ | refine wP ?_ | refine wJ ?_ | refine wX ?_ | refine wY ?_ | refine wZ ?_))
          clear hF
          repeat refine evDone ?_
          try (show AW _ _ _ _ _)
          have hF := hN
          refine wV (hA := h35) ?_
          clear hF
          have hF := And.intro (hkj') (And.intro (hwp) (And.intro (hy) (And.intro (hka) (And.intro (hkb) (And.intro (hkc) (And.intro (hke) (And.intro (hpa) (And.intro (hpb) (And.intro (hpc) (And.intro (hpe) (hN)))))))))))
          repeat (first | refine wD1 ?_ | refine wD2 ?_ | refine wE1 ?_ | refine wE2 ?_ | (refine wE3 ?_; intro _) | (refine wE4 ?_; intro _) | refine wN ?_ | ((with_reducible show evIs _ (_ :: _) _ _); first | refine wQ ?_ | refine wF ?_ | refine wG ?_ | refine wT ?_ | refine wM ?_ | refine wS ?_ | refine wP ?_ | refine wJ ?_ | refine wX ?_ | refine wY ?_ | refine wZ ?_))
          clear hF
          repeat refine evDone ?_
          try (show AW _ _ _ _ _)
          repeat refine AW.seq ?_
          refine AW.condF (by simp []) (by simp []) ?_
          refine AW.exit ?_
          refine ⟨rfl, k, ⟨hk1, hk2, hk3, fun _ => by rw [hp2]; exact hc⟩, ?_⟩
          refine Fit.mk _ _ _ (by simp [hN, conv2, newEmp, convs_refl, convs, conv]) (by simp [hN, heapFit, newEmp, conv2s, conv2, convs_refl, convs, conv]) (by intro q hq; first | (simp at hq; done) | (simp at hq; omega) | (simp at hq; simp; omega))
        | false =>
          have h35 := c35f hc
          repeat refine AW.seq ?_
          refine AW.draw ?_
          have hF := And.intro (hkj') (And.intro (hwp) (And.intro (hy) (And.intro (hka) (And.intro (hkb) (And.intro (hkc) (And.intro (hke) (And.intro (hpa) (And.intro (hpb) (And.intro (hpc) (And.intro (hpe) (hN)))))))))))
          repeat (first | refine wD1 ?_ | refine wD2 ?_ | refine wE1 ?_ | refine wE2 ?_ | (refine wE3 ?_; intro _) | (refine wE4 ?_; intro _) | refine wN ?_ | ((with_reducible show evIs _ (_ :: _) _ _); first | refine wQ ?_ | refine wF ?_ | refine wG ?_ | refine wT ?_ | refine wM ?_ | refine wS ?_ | refine wP ?_ | refine wJ ?_ | refine wX ?_ | refine wY ?_ | refine wZ ?_))
          clear hF
          repeat refine evDone ?_
          try (show AW _ _ _ _ _)
          have hF := hN
          refine wV (hA := h35) ?_
          clear hF
          have hF := And.intro (hkj') (And.intro (hwp) (And.intro (hy) (And.intro (hka) (And.intro (hkb) (And.intro (hkc) (And.intro (hke) (And.intro (hpa) (And.intro (hpb) (And.intro (hpc) (And.intro (hpe) (hN)))))))))))
          repeat (first | refine wD1 ?_ | refine wD2 ?_ | refine wE1 ?_ | refine wE2 ?_ | (refine wE3 ?_; intro _) | (refine wE4 ?_; intro _) | refine wN ?_ | ((with_reducible show evIs _ (_ :: _) _ _); first | refine wQ ?_ | refine wF ?_ | refine wG ?_ | refine wT ?_ | refine wM ?_ | refine wS ?_ | refine wP ?_ | refine wJ ?_ | refine wX ?_ | refine wY ?_ | refine wZ ?_))
          clear hF
          repeat refine evDone ?_
          try (show AW _ _ _ _ _)
          repeat refine AW.seq ?_
          refine AW.condT (by simp []) (by simp []) ?_
          refine AW.skip ?_
          show AW _ _ _ _ _
          refine AW.block ?_
          repeat refine AW.seq ?_
          refine AW.reg ?_
          have hF := And.intro (hwe) (hN)
          repeat (first | refine wD1 ?_ | refine wD2 ?_ | refine wE1 ?_ | refine wE2 ?_ | (refine wE3 ?_; intro _) | (refine wE4 ?_; intro _) | refine wN ?_ | ((with_reducible show evIs _ (_ :: _) _ _); first | refine wQ ?_ | refine wF ?_ | refine wG ?_ | refine wT ?_ | refine wM ?_ | refine wS ?_ | refine wP ?_ | refine wJ ?_ | refine wX ?_ | refine wY ?_ | refine wZ ?_))
          clear hF
          repeat refine evDone ?_
          try (show AW _ _ _ _ _)
          refine ⟨e, ⟨by omega, by omega, by rw [he]; exact srt_next hk3 hk1 (by rw [hp2]; exact hc)⟩, by omega, ?_⟩
          refine Fit.mk _ _ _ (by simp [hwe, hN, conv2, newEmp, convs_refl, convs, conv]) (by simp [hwe, hN, heapFit, newEmp, conv2s, conv2, convs_refl, convs, conv]) (by intro q hq; first | (simp at hq; done) | (simp at hq; omega) | (simp at hq; simp; omega))
      · have hkj' : ¬ (k : Int) < b := by omega
        repeat refine AW.seq ?_
        refine AW.draw ?_
        have hF := And.intro (hkj') (hN)
        repeat (first | refine wD1 ?_ | refine wD2 ?_ | refine wE1 ?_ | refine wE2 ?_ | refine wE6 ?_ | refine wE7 ?_ | refine wE5 ?_ | refine wN ?_ | ((with_reducible show evIs _ (_ :: _) _ _); first | refine wQ ?_ | refine wF ?_ | refine wG ?_ | refine wT ?_ | refine wM ?_ | refine wS ?_ | refine wP ?_ | refine wJ ?_ | refine wX ?_ | refine wY ?_ | refine wZ ?_))
        clear hF
        repeat refine evDone ?_
        try (show AW _ _ _ _ _)
        repeat refine AW.seq ?_
        refine AW.condF (by simp []) (by simp []) ?_
        refine AW.exit ?_
        refine ⟨rfl, k, ⟨hk1, hk2, hk3, fun h => absurd h hkj⟩, ?_⟩
        refine Fit.mk _ _ _ (by simp [hN, conv2, newEmp, convs_refl, convs, conv]) (by simp [hN, heapFit, newEmp, conv2s, conv2, convs_refl, convs, conv]) (by intro q hq; first | (simp at hq; done) | (simp at hq; omega) | (simp at hq; simp; omega))
    rintro i9 ⟨hai, hibn, hr, hbe⟩
    obtain ⟨i, hie⟩ : ∃ i, i = i9 := ⟨_, rfl⟩
    rw [← hie] at hai hibn hr hbe ⊢
    rw [mkS_eq]
    repeat refine AW.seq ?_
    refine AW.reg ?_
    by_cases hieb : i = b
    · have hieb' : ((i : Int) == (b : Int)) = true := by rw [hieb]; simp
      have hF := And.intro (hieb') (hN)
      repeat (first | refine wD1 ?_ | refine wD2 ?_ | refine wE1 ?_ | refine wE2 ?_ | (refine wE3 ?_; intro _) | (refine wE4 ?_; intro _) | refine wN ?_ | ((with_reducible show evIs _ (_ :: _) _ _); first | refine wQ ?_ | refine wF ?_ | refine wG ?_ | refine wT ?_ | refine wM ?_ | refine wS ?_ | refine wP ?_ | refine wJ ?_ | refine wX ?_ | refine wY ?_ | refine wZ ?_))
      clear hF
      repeat refine evDone ?_
      try (show AW _ _ _ _ _)
      repeat refine AW.seq ?_
      refine AW.condT (by simp [hieb']) (by simp [hieb']) ?_
      repeat refine AW.seq ?_
      refine AW.reg ?_
      have hF := hN
      repeat (first | refine wD1 ?_ | refine wD2 ?_ | refine wE1 ?_ | refine wE2 ?_ | (refine wE3 ?_; intro _) | (refine wE4 ?_; intro _) | refine wN ?_ | ((with_reducible show evIs _ (_ :: _) _ _); first | refine wQ ?_ | refine wF ?_ | refine wG ?_ | refine wT ?_ | refine wM ?_ | refine wS ?_ | refine wP ?_ | refine wJ ?_ | refine wX ?_ | refine wY ?_ | refine wZ ?_))
      clear hF
      repeat refine evDone ?_
      try (show AW _ _ _ _ _)
      refine AW.ret ⟨by simp [resP, a47_res, ARes.op, hN], [(H, ⟨2, false, ys.map Item.av⟩)], N + 1000, [.bool true], ⟨ys, rfl, rfl, true, rfl, hs, fun _ => hieb ▸ hr⟩, by omega, by simp [hN], rfl, by simp, ?_⟩
      simp only [resV, a47_res, List.map_cons, List.map_nil, ARes.op]
      refine Fit.mk _ _ _ (by simp [hN, conv2, newEmp, convs_refl, convs, conv]) (by simp [hN, heapFit, newEmp, conv2s, conv2, convs_refl, convs, conv]) (by intro q hq; first | (simp at hq; done) | (simp at hq; omega) | (simp at hq; simp; omega))
    · have hieb' : ((i : Int) == (b : Int)) = false := by simp; omega
      have hieb2 : ¬ (i : Int) = b := by omega
      have hF := And.intro (hieb') (And.intro (hieb2) (hN))
      repeat (first | refine wD1 ?_ | refine wD2 ?_ | refine wE1 ?_ | refine wE2 ?_ | (refine wE3 ?_; intro _) | (refine wE4 ?_; intro _) | refine wN ?_ | ((with_reducible show evIs _ (_ :: _) _ _); first | refine wQ ?_ | refine wF ?_ | refine wG ?_ | refine wT ?_ | refine wM ?_ | refine wS ?_ | refine wP ?_ | refine wJ ?_ | refine wX ?_ | refine wY ?_ | refine wZ ?_))
      clear hF
      repeat refine evDone ?_
      try (show AW _ _ _ _ _)
      repeat refine AW.seq ?_
      refine AW.condF (by simp [hieb', hieb2]) (by simp [hieb', hieb2]) ?_
      refine AW.skip ?_
      show AW _ _ _ _ _
      repeat refine AW.seq ?_
      refine AW.reg ?_
      by_cases hl50 : l < 50
      · have hl50' : (l : Int) < 50 := by omega
        have hF := And.intro (hwl) (And.intro (hl50') (hN))
        repeat (first | refine wD1 ?_ | refine wD2 ?_ | refine wE1 ?_ | refine wE2 ?_ | (refine wE3 ?_; intro _) | (refine wE4 ?_; intro _) | refine wN ?_ | ((with_reducible show evIs _ (_ :: _) _ _); first | refine wQ ?_ | refine wF ?_ | refine wG ?_ | refine wT ?_ | refine wM ?_ | refine wS ?_ | refine wP ?_ | refine wJ ?_ | refine wX ?_ | refine wY ?_ | refine wZ ?_))
        clear hF
        repeat refine evDone ?_
        try (show AW _ _ _ _ _)
        repeat refine AW.seq ?_
        refine AW.condT (by simp [hl50']) (by simp [hl50']) ?_
        repeat refine AW.seq ?_
        refine AW.reg ?_
        have hF := hN
        repeat (first | refine wD1 ?_ | refine wD2 ?_ | refine wE1 ?_ | refine wE2 ?_ | (refine wE3 ?_; intro _) | (refine wE4 ?_; intro _) | refine wN ?_ | ((with_reducible show evIs _ (_ :: _) _ _); first | refine wQ ?_ | refine wF ?_ | refine wG ?_ | refine wT ?_ | refine wM ?_ | refine wS ?_ | refine wP ?_ | refine wJ ?_ | refine wX ?_ | refine wY ?_ | refine wZ ?_))
        clear hF
        repeat refine evDone ?_
        try (show AW _ _ _ _ _)
        refine AW.ret ⟨by simp [resP, a47_res, ARes.op, hN], [(H, ⟨2, false, ys.map Item.av⟩)], N + 1000, [.bool false], ⟨ys, rfl, rfl, false, rfl, hs, fun h => absurd h (by simp)⟩, by omega, by simp [hN], rfl, by simp, ?_⟩
        simp only [resV, a47_res, List.map_cons, List.map_nil, ARes.op]
        refine Fit.mk _ _ _ (by simp [hN, conv2, newEmp, convs_refl, convs, conv]) (by simp [hN, heapFit, newEmp, conv2s, conv2, convs_refl, convs, conv]) (by intro q hq; first | (simp at hq; done) | (simp at hq; omega) | (simp at hq; simp; omega))
      · have hl50' : ¬ (l : Int) < 50 := by omega
        have hF := And.intro (hwl) (And.intro (hl50') (hN))
        repeat (first | refine wD1 ?_ | refine wD2 ?_ | refine wE1 ?_ | refine wE2 ?_ | (refine wE3 ?_; intro _) | (refine wE4 ?_; intro _) | refine wN ?_ | ((with_reducible show evIs _ (_ :: _) _ _); first | refine wQ ?_ | refine wF ?_ | refine wG ?_ | refine wT ?_ | refine wM ?_ | refine wS ?_ | refine wP ?_ | refine wJ ?_ | refine wX ?_ | refine wY ?_ | refine wZ ?_))
        clear hF
        repeat refine evDone ?_
        try (show AW _ _ _ _ _)
        repeat refine AW.seq ?_
        refine AW.condF (by simp [hl50']) (by simp [hl50']) ?_
        refine AW.skip ?_
        show AW _ _ _ _ _
        obtain ⟨q, hq⟩ : ∃ q, i = q + 1 := ⟨i - 1, by omega⟩
        obtain ⟨d, hd⟩ : ∃ d, i = a + d := ⟨i - a, by omega⟩
        obtain ⟨f, hf⟩ : ∃ f, b = i + f := ⟨b - i, by omega⟩
        obtain ⟨i1, hi1⟩ : ∃ k, k = i + 1 := ⟨_, rfl⟩
        have hwq : IntKind.i64.wrap ((i : Int) - 1) = (q : Int) := by rw [show (i : Int) - 1 = (q : Int) by omega]; exact i64_in _ ⟨by omega, by omega⟩
        have hwd : IntKind.i64.wrap ((i : Int) - (a : Int)) = (d : Int) := by rw [show (i : Int) - (a : Int) = (d : Int) by omega]; exact i64_in _ ⟨by omega, by omega⟩
        have hwf : IntKind.i64.wrap ((b : Int) - (i : Int)) = (f : Int) := by rw [show (b : Int) - (i : Int) = (f : Int) by omega]; exact i64_in _ ⟨by omega, by omega⟩
        have hwi : IntKind.i64.wrap ((i : Int) + 1) = (i1 : Int) := by rw [show (i : Int) + 1 = (i1 : Int) by omega]; exact i64_in _ ⟨by omega, by omega⟩
        have hia : (0 : Int) ≤ i := by omega
        have hib : (i : Int) < n := by omega
        have hic : i < n := by omega
        have hie := it_av (xs := ys) (i := i) (by omega)
        have hqa : (0 : Int) ≤ q := by omega
        have hqb : (q : Int) < n := by omega
        have hqc : q < n := by omega
        have hqe := it_av (xs := ys) (i := q) (by omega)
        have hse := it_av (xs := ys.set i (it ys q)) (i := q) (by simp; omega)
        rw [← set_av] at hse
        repeat refine AW.seq ?_
        refine AW.draw ?_
        have hF := And.intro (hy) (And.intro (hwq) (And.intro (hia) (And.intro (hib) (And.intro (hic) (And.intro (hie) (And.intro (hqa) (And.intro (hqb) (And.intro (hqc) (And.intro (hqe) (And.intro (hse) (hN)))))))))))
        repeat (first | refine wD1 ?_ | refine wD2 ?_ | refine wE1 ?_ | refine wE2 ?_ | (refine wE3 ?_; intro _) | (refine wE4 ?_; intro _) | refine wN ?_ | ((with_reducible show evIs _ (_ :: _) _ _); first | refine wQ ?_ | refine wF ?_ | refine wG ?_ | refine wT ?_ | refine wM ?_ | refine wS ?_ | refine wP ?_ | refine wJ ?_ | refine wX ?_ | refine wY ?_ | refine wZ ?_))
        clear hF
        repeat refine evDone ?_
        try (show AW _ _ _ _ _)
        have hr : Srt a q (swap ys i q) := srt_swap_out (srt_less hr (by omega)) (by omega) (by omega) (by omega) (by omega)
        have hs : Sam a b xs (swap ys i q) := hs.swap (by omega) (by omega) (by omega) (by omega) (by omega)
        refine AW.fit (st' := mkS [(0, .hdr H 0 n), (1, .int .i64 a), (2, .int .i64 b), (3, .fn 35 []), (8, .bool false), (9, .int .i64 i), (10, .int .i64 c)] [(H, ⟨2, false, (swap ys i q).map Item.av⟩)] N) ?_ ?_
        · refine Fit.mk _ _ _ (by simp [swap, Item.av, hN, conv2, newEmp, convs_refl, convs, conv]) (by simp [swap, Item.av, hN, heapFit, newEmp, conv2s, conv2, convs_refl, convs, conv]) (by intro q hq; first | (simp at hq; done) | (simp at hq; omega) | (simp at hq; simp; omega))
        have hy : (swap ys i q).length = n := by rw [swap_len]; exact hy
        generalize swap ys i q = zs at hy hs hr ⊢
        rw [mkS_eq]
        refine AW.cutE (fun g : List Item => mkS [(0, .hdr H 0 n), (1, .int .i64 a), (2, .int .i64 b), (3, .fn 35 []), (8, .bool false), (9, .int .i64 i), (10, .int .i64 c)] [(H, ⟨2, false, g.map Item.av⟩)] N) (fun g : List Item => g.length = n ∧ Sam a b xs g ∧ Srt a i g) ?_ ?_
        · repeat refine AW.seq ?_
          refine AW.reg ?_
          by_cases hd2 : 2 ≤ d
          · have hd2' : (2 : Int) ≤ d := by omega
            have hF := And.intro (hwd) (And.intro (hd2') (hN))
            repeat (first | refine wD1 ?_ | refine wD2 ?_ | refine wE1 ?_ | refine wE2 ?_ | (refine wE3 ?_; intro _) | (refine wE4 ?_; intro _) | refine wN ?_ | ((with_reducible show evIs _ (_ :: _) _ _); first | refine wQ ?_ | refine wF ?_ | refine wG ?_ | refine wT ?_ | refine wM ?_ | refine wS ?_ | refine wP ?_ | refine wJ ?_ | refine wX ?_ | refine wY ?_ | refine wZ ?_))
            clear hF
            repeat refine evDone ?_
            try (show AW _ _ _ _ _)
            repeat refine AW.seq ?_
            refine AW.condT (by simp [hd2']) (by simp [hd2']) ?_
            repeat refine AW.seq ?_
            refine AW.reg ?_
            have hF := And.intro (hwq) (hN)
            repeat (first | refine wD1 ?_ | refine wD2 ?_ | refine wE1 ?_ | refine wE2 ?_ | (refine wE3 ?_; intro _) | (refine wE4 ?_; intro _) | refine wN ?_ | ((with_reducible show evIs _ (_ :: _) _ _); first | refine wQ ?_ | refine wF ?_ | refine wG ?_ | refine wT ?_ | refine wM ?_ | refine wS ?_ | refine wP ?_ | refine wJ ?_ | refine wX ?_ | refine wY ?_ | refine wZ ?_))
            clear hF
            repeat refine evDone ?_
            try (show AW _ _ _ _ _)
            refine AW.block ?_
            refine AW.loop (fun g : List Item × Nat => g.1.length = n ∧ a ≤ g.2 ∧ g.2 ≤ q ∧ Sam a b xs g.1 ∧ Ins a g.2 q g.1) (fun g => mkS [(0, .hdr H 0 n), (1, .int .i64 a), (2, .int .i64 b), (3, .fn 35 []), (8, .bool false), (9, .int .i64 i), (10, .int .i64 c), (11, .int .i64 g.2)] [(H, ⟨2, false, g.1.map Item.av⟩)] N) (fun g => g.2) (zs, q) ⟨hy, by dsimp only; omega, by dsimp only; omega, hs, ins_start hr⟩ ?_ ?_
            · refine Fit.mk _ _ _ (by simp [hwq, hN, conv2, newEmp, convs_refl, convs, conv]) (by simp [hwq, hN, heapFit, newEmp, conv2s, conv2, convs_refl, convs, conv]) (by intro q hq; first | (simp at hq; done) | (simp at hq; omega) | (simp at hq; simp; omega))
            rintro ⟨ys, j⟩ ⟨hy, haj, hjq, hs, hr⟩
            dsimp only at hy haj hjq hs hr ⊢
            have hpr := pre_of hpre hs (ord_start a b ys) (Nat.le_refl _) (Nat.le_refl _)
            by_cases hj0 : 1 ≤ j
            · have hj0' : (1 : Int) ≤ j := by omega
              obtain ⟨p, hp⟩ : ∃ p, j = p + 1 := ⟨j - 1, by omega⟩
              have hp2 : j - 1 = p := by omega
              have hwp : IntKind.i64.wrap ((j : Int) - 1) = (p : Int) := by rw [show (j : Int) - 1 = (p : Int) by omega]; exact i64_in _ ⟨by omega, by omega⟩
              have hja : (0 : Int) ≤ j := by omega
              have hjb : (j : Int) < n := by omega
              have hjc : j < n := by omega
              have hje := it_av (xs := ys) (i := j) (by omega)
              have hpa : (0 : Int) ≤ p := by omega
              have hpb : (p : Int) < n := by omega
              have hpc : p < n := by omega
              have hpe := it_av (xs := ys) (i := p) (by omega)
              repeat refine AW.seq ?_
              refine AW.reg ?_
              have hF := And.intro (hj0') (hN)
              repeat (first | refine wD1 ?_ | refine wD2 ?_ | refine wE1 ?_ | refine wE2 ?_ | (refine wE3 ?_; intro _) | (refine wE4 ?_; intro _) | refine wN ?_ | ((with_reducible show evIs _ (_ :: _) _ _); first | refine wQ ?_ | refine wF ?_ | refine wG ?_ | refine wT ?_ | refine wM ?_ | refine wS ?_ | refine wP ?_ | refine wJ ?_ | refine wX ?_ | refine wY ?_ | refine wZ ?_))
              clear hF
              repeat refine evDone ?_
              try (show AW _ _ _ _ _)
              repeat refine AW.seq ?_
              refine AW.condT (by simp [hj0']) (by simp [hj0']) ?_
              refine AW.skip ?_
              show AW _ _ _ _ _
              refine AW.seq (AW.block ?_)
              cases hc : bef (it ys j) (it ys p) with
              | false =>
                have h35 := c35f hc
                repeat refine AW.seq ?_
                refine AW.draw ?_
                have hF := And.intro (hwp) (And.intro (hy) (And.intro (hja) (And.intro (hjb) (And.intro (hjc) (And.intro (hje) (And.intro (hpa) (And.intro (hpb) (And.intro (hpc) (And.intro (hpe) (hN))))))))))
                repeat (first | refine wD1 ?_ | refine wD2 ?_ | refine wE1 ?_ | refine wE2 ?_ | (refine wE3 ?_; intro _) | (refine wE4 ?_; intro _) | refine wN ?_ | ((with_reducible show evIs _ (_ :: _) _ _); first | refine wQ ?_ | refine wF ?_ | refine wG ?_ | refine wT ?_ | refine wM ?_ | refine wS ?_ | refine wP ?_ | refine wJ ?_ | refine wX ?_ | refine wY ?_ | refine wZ ?_))
                clear hF
                repeat refine evDone ?_
                try (show AW _ _ _ _ _)
                have hF := hN
                refine wV (hA := h35) ?_
                clear hF
                have hF := And.intro (hwp) (And.intro (hy) (And.intro (hja) (And.intro (hjb) (And.intro (hjc) (And.intro (hje) (And.intro (hpa) (And.intro (hpb) (And.intro (hpc) (And.intro (hpe) (hN))))))))))
                repeat (first | refine wD1 ?_ | refine wD2 ?_ | refine wE1 ?_ | refine wE2 ?_ | (refine wE3 ?_; intro _) | (refine wE4 ?_; intro _) | refine wN ?_ | ((with_reducible show evIs _ (_ :: _) _ _); first | refine wQ ?_ | refine wF ?_ | refine wG ?_ | refine wT ?_ | refine wM ?_ | refine wS ?_ | refine wP ?_ | refine wJ ?_ | refine wX ?_ | refine wY ?_ | refine wZ ?_))
                clear hF
                repeat refine evDone ?_
                try (show AW _ _ _ _ _)
                repeat refine AW.seq ?_
                refine AW.condT (by simp []) (by simp []) ?_
                refine AW.exit ?_
                refine ⟨rfl, ys, ⟨hy, hs, by rw [hq]; exact ins_end hr haj hjq (fun _ => by rw [hp2]; exact hc)⟩, ?_⟩
                refine Fit.mk _ _ _ (by simp [hN, conv2, newEmp, convs_refl, convs, conv]) (by simp [hN, heapFit, newEmp, conv2s, conv2, convs_refl, convs, conv]) (by intro q hq; first | (simp at hq; done) | (simp at hq; omega) | (simp at hq; simp; omega))
              | true =>
                have haj2 : a < j := by
                  rcases Nat.lt_or_ge a j with h | h
                  · exact h
                  · have e : a = j := by omega
                    have h1 := hpr a (by omega) (Nat.le_refl _) (by omega)
                    rw [e, hp2] at h1
                    have h2 : bef (it ys j) (it ys p) = false := h1
                    rw [h2] at hc
                    exact absurd hc (by simp)
                have h35 := c35t hc
                repeat refine AW.seq ?_
                refine AW.draw ?_
                have hF := And.intro (hwp) (And.intro (hy) (And.intro (hja) (And.intro (hjb) (And.intro (hjc) (And.intro (hje) (And.intro (hpa) (And.intro (hpb) (And.intro (hpc) (And.intro (hpe) (hN))))))))))
                repeat (first | refine wD1 ?_ | refine wD2 ?_ | refine wE1 ?_ | refine wE2 ?_ | (refine wE3 ?_; intro _) | (refine wE4 ?_; intro _) | refine wN ?_ | ((with_reducible show evIs _ (_ :: _) _ _); first | refine wQ ?_ | refine wF ?_ | refine wG ?_ | refine wT ?_ | refine wM ?_ | refine wS ?_ | refine wP ?_ | refine wJ ?_ | refine wX ?_ | refine wY ?_ | refine wZ ?_))
                clear hF
                repeat refine evDone ?_
                try (show AW _ _ _ _ _)
                have hF := hN
                refine wV (hA := h35) ?_
                clear hF
                have hF := And.intro (hwp) (And.intro (hy) (And.intro (hja) (And.intro (hjb) (And.intro (hjc) (And.intro (hje) (And.intro (hpa) (And.intro (hpb) (And.intro (hpc) (And.intro (hpe) (hN))))))))))
                repeat (first | refine wD1 ?_ | refine wD2 ?_ | refine wE1 ?_ | refine wE2 ?_ | (refine wE3 ?_; intro _) | (refine wE4 ?_; intro _) | refine wN ?_ | ((with_reducible show evIs _ (_ :: _) _ _); first | refine wQ ?_ | refine wF ?_ | refine wG ?_ | refine wT ?_ | refine wM ?_ | refine wS ?_ | refine wP ?_ | refine wJ ?_ | refine wX ?_ | refine wY ?_ | refine wZ ?_))
                clear hF
                repeat refine evDone ?_
                try (show AW _ _ _ _ _)
                repeat refine AW.seq ?_
                refine AW.condF (by simp []) (by simp []) ?_
                refine AW.skip ?_
                show AW _ _ _ _ _
                have hse := it_av (xs := ys.set j (it ys p)) (i := p) (by simp; omega)
                rw [← set_av] at hse
                repeat refine AW.seq ?_
                refine AW.draw ?_
                have hF := And.intro (hy) (And.intro (hwp) (And.intro (hja) (And.intro (hjb) (And.intro (hjc) (And.intro (hje) (And.intro (hpa) (And.intro (hpb) (And.intro (hpc) (And.intro (hpe) (And.intro (hse) (hN)))))))))))
                repeat (first | refine wD1 ?_ | refine wD2 ?_ | refine wE1 ?_ | refine wE2 ?_ | (refine wE3 ?_; intro _) | (refine wE4 ?_; intro _) | refine wN ?_ | ((with_reducible show evIs _ (_ :: _) _ _); first | refine wQ ?_ | refine wF ?_ | refine wG ?_ | refine wT ?_ | refine wM ?_ | refine wS ?_ | refine wP ?_ | refine wJ ?_ | refine wX ?_ | refine wY ?_ | refine wZ ?_))
                clear hF
                repeat refine evDone ?_
                try (show AW _ _ _ _ _)
                repeat refine AW.seq ?_
                refine AW.reg ?_
                have hF := And.intro (hwp) (hN)
                repeat (first | refine wD1 ?_ | refine wD2 ?_ | refine wE1 ?_ | refine wE2 ?_ | (refine wE3 ?_; intro _) | (refine wE4 ?_; intro _) | refine wN ?_ | ((with_reducible show evIs _ (_ :: _) _ _); first | refine wQ ?_ | refine wF ?_ | refine wG ?_ | refine wT ?_ | refine wM ?_ | refine wS ?_ | refine wP ?_ | refine wJ ?_ | refine wX ?_ | refine wY ?_ | refine wZ ?_))
                clear hF
                repeat refine evDone ?_
                try (show AW _ _ _ _ _)
                refine ⟨(swap ys j p, p), ⟨by rw [swap_len]; exact hy, by dsimp only; omega, by dsimp only; omega, hs.swap (by omega) (by omega) (by omega) (by omega) (by omega), by subst hp; exact ins_step hr (by omega) (by omega) (by omega) hc⟩, by dsimp only; omega, ?_⟩
                refine Fit.mk _ _ _ (by simp [swap, Item.av, hwp, hN, conv2, newEmp, convs_refl, convs, conv]) (by simp [swap, Item.av, hwp, hN, heapFit, newEmp, conv2s, conv2, convs_refl, convs, conv]) (by intro q hq; first | (simp at hq; done) | (simp at hq; omega) | (simp at hq; simp; omega))
            · have hj0' : ¬ (1 : Int) ≤ j := by omega
              repeat refine AW.seq ?_
              refine AW.reg ?_
              have hF := And.intro (hj0') (hN)
              repeat (first | refine wD1 ?_ | refine wD2 ?_ | refine wE1 ?_ | refine wE2 ?_ | (refine wE3 ?_; intro _) | (refine wE4 ?_; intro _) | refine wN ?_ | ((with_reducible show evIs _ (_ :: _) _ _); first | refine wQ ?_ | refine wF ?_ | refine wG ?_ | refine wT ?_ | refine wM ?_ | refine wS ?_ | refine wP ?_ | refine wJ ?_ | refine wX ?_ | refine wY ?_ | refine wZ ?_))
              clear hF
              repeat refine evDone ?_
              try (show AW _ _ _ _ _)
              repeat refine AW.seq ?_
              refine AW.condF (by simp [hj0']) (by simp [hj0']) ?_
              refine AW.exit ?_
              refine ⟨rfl, ys, ⟨hy, hs, by rw [hq]; exact ins_end hr haj hjq (fun h => by omega)⟩, ?_⟩
              refine Fit.mk _ _ _ (by simp [hN, conv2, newEmp, convs_refl, convs, conv]) (by simp [hN, heapFit, newEmp, conv2s, conv2, convs_refl, convs, conv]) (by intro q hq; first | (simp at hq; done) | (simp at hq; omega) | (simp at hq; simp; omega))
          · have hd2' : ¬ (2 : Int) ≤ d := by omega
            have hF := And.intro (hwd) (And.intro (hd2') (hN))
            repeat (first | refine wD1 ?_ | refine wD2 ?_ | refine wE1 ?_ | refine wE2 ?_ | (refine wE3 ?_; intro _) | (refine wE4 ?_; intro _) | refine wN ?_ | ((with_reducible show evIs _ (_ :: _) _ _); first | refine wQ ?_ | refine wF ?_ | refine wG ?_ | refine wT ?_ | refine wM ?_ | refine wS ?_ | refine wP ?_ | refine wJ ?_ | refine wX ?_ | refine wY ?_ | refine wZ ?_))
            clear hF
            repeat refine evDone ?_
            try (show AW _ _ _ _ _)
            repeat refine AW.seq ?_
            refine AW.condF (by simp [hd2']) (by simp [hd2']) ?_
            refine AW.skip ?_
            refine ⟨rfl, zs, ⟨hy, hs, srt_one (by omega)⟩, ?_⟩
            refine Fit.mk _ _ _ (by simp [hN, conv2, newEmp, convs_refl, convs, conv]) (by simp [hN, heapFit, newEmp, conv2s, conv2, convs_refl, convs, conv]) (by intro q hq; first | (simp at hq; done) | (simp at hq; omega) | (simp at hq; simp; omega))
        rintro zs ⟨hy, hs, hr⟩
        rw [mkS_eq]
        refine AW.endE (fun g : List Item => mkS [(0, .hdr H 0 n), (1, .int .i64 a), (2, .int .i64 b), (3, .fn 35 []), (8, .bool false), (9, .int .i64 i), (10, .int .i64 c)] [(H, ⟨2, false, g.map Item.av⟩)] N) (fun g : List Item => g.length = n ∧ Sam a b xs g ∧ Srt a i g) ?_ ?_
        · repeat refine AW.seq ?_
          refine AW.reg ?_
          by_cases hf2 : 2 ≤ f
          · have hf2' : (2 : Int) ≤ f := by omega
            have hF := And.intro (hwf) (And.intro (hf2') (hN))
            repeat (first | refine wD1 ?_ | refine wD2 ?_ | refine wE1 ?_ | refine wE2 ?_ | (refine wE3 ?_; intro _) | (refine wE4 ?_; intro _) | refine wN ?_ | ((with_reducible show evIs _ (_ :: _) _ _); first | refine wQ ?_ | refine wF ?_ | refine wG ?_ | refine wT ?_ | refine wM ?_ | refine wS ?_ | refine wP ?_ | refine wJ ?_ | refine wX ?_ | refine wY ?_ | refine wZ ?_))
            clear hF
            repeat refine evDone ?_
            try (show AW _ _ _ _ _)
            repeat refine AW.seq ?_
            refine AW.condT (by simp [hf2']) (by simp [hf2']) ?_
            repeat refine AW.seq ?_
            refine AW.reg ?_
            have hF := And.intro (hwi) (hN)
            repeat (first | refine wD1 ?_ | refine wD2 ?_ | refine wE1 ?_ | refine wE2 ?_ | (refine wE3 ?_; intro _) | (refine wE4 ?_; intro _) | refine wN ?_ | ((with_reducible show evIs _ (_ :: _) _ _); first | refine wQ ?_ | refine wF ?_ | refine wG ?_ | refine wT ?_ | refine wM ?_ | refine wS ?_ | refine wP ?_ | refine wJ ?_ | refine wX ?_ | refine wY ?_ | refine wZ ?_))
            clear hF
            repeat refine evDone ?_
            try (show AW _ _ _ _ _)
            refine AW.block ?_
            refine AW.loop (fun g : List Item × Nat => g.1.length = n ∧ i < g.2 ∧ g.2 ≤ b ∧ Sam a b xs g.1 ∧ Srt a i g.1) (fun g => mkS [(0, .hdr H 0 n), (1, .int .i64 a), (2, .int .i64 b), (3, .fn 35 []), (8, .bool false), (9, .int .i64 i), (10, .int .i64 c), (12, .int .i64 g.2)] [(H, ⟨2, false, g.1.map Item.av⟩)] N) (fun g => b - g.2) (zs, i1) ⟨hy, by dsimp only; omega, by dsimp only; omega, hs, hr⟩ ?_ ?_
            · refine Fit.mk _ _ _ (by simp [hwi, hN, conv2, newEmp, convs_refl, convs, conv]) (by simp [hwi, hN, heapFit, newEmp, conv2s, conv2, convs_refl, convs, conv]) (by intro q hq; first | (simp at hq; done) | (simp at hq; omega) | (simp at hq; simp; omega))
            rintro ⟨ys, j⟩ ⟨hy, haj, hjq, hs, hr⟩
            dsimp only at hy haj hjq hs hr ⊢
            by_cases hj0 : j < b
            · have hj0' : (j : Int) < b := by omega
              obtain ⟨p, hp⟩ : ∃ p, j = p + 1 := ⟨j - 1, by omega⟩
              obtain ⟨e, he⟩ : ∃ e, e = j + 1 := ⟨_, rfl⟩
              have hwp : IntKind.i64.wrap ((j : Int) - 1) = (p : Int) := by rw [show (j : Int) - 1 = (p : Int) by omega]; exact i64_in _ ⟨by omega, by omega⟩
              have hwe : IntKind.i64.wrap ((j : Int) + 1) = (e : Int) := by rw [show (j : Int) + 1 = (e : Int) by omega]; exact i64_in _ ⟨by omega, by omega⟩
              have hja : (0 : Int) ≤ j := by omega
              have hjb : (j : Int) < n := by omega
              have hjc : j < n := by omega
              have hje := it_av (xs := ys) (i := j) (by omega)
              have hpa : (0 : Int) ≤ p := by omega
              have hpb : (p : Int) < n := by omega
              have hpc : p < n := by omega
              have hpe := it_av (xs := ys) (i := p) (by omega)
              repeat refine AW.seq ?_
              refine AW.reg ?_
              have hF := And.intro (hj0') (hN)
              repeat (first | refine wD1 ?_ | refine wD2 ?_ | refine wE1 ?_ | refine wE2 ?_ | (refine wE3 ?_; intro _) | (refine wE4 ?_; intro _) | refine wN ?_ | ((with_reducible show evIs _ (_ :: _) _ _); first | refine wQ ?_ | refine wF ?_ | refine wG ?_ | refine wT ?_ | refine wM ?_ | refine wS ?_ | refine wP ?_ | refine wJ ?_ | refine wX ?_ | refine wY ?_ | refine wZ ?_))
              clear hF
              repeat refine evDone ?_
              try (show AW _ _ _ _ _)
              repeat refine AW.seq ?_
              refine AW.condT (by simp [hj0']) (by simp [hj0']) ?_
              refine AW.skip ?_
              show AW _ _ _ _ _
              refine AW.seq (AW.block ?_)
              cases hc : bef (it ys j) (it ys p) with
              | false =>
                have h35 := c35f hc
                repeat refine AW.seq ?_
                refine AW.draw ?_
                have hF := And.intro (hwp) (And.intro (hy) (And.intro (hja) (And.intro (hjb) (And.intro (hjc) (And.intro (hje) (And.intro (hpa) (And.intro (hpb) (And.intro (hpc) (And.intro (hpe) (hN))))))))))
                repeat (first | refine wD1 ?_ | refine wD2 ?_ | refine wE1 ?_ | refine wE2 ?_ | (refine wE3 ?_; intro _) | (refine wE4 ?_; intro _) | refine wN ?_ | ((with_reducible show evIs _ (_ :: _) _ _); first | refine wQ ?_ | refine wF ?_ | refine wG ?_ | refine wT ?_ | refine wM ?_ | refine wS ?_ | refine wP ?_ | refine wJ ?_ | refine wX ?_ | refine wY ?_ | refine wZ ?_))
                clear hF
                repeat refine evDone ?_
                try (show AW _ _ _ _ _)
                have hF := hN
                refine wV (hA := h35) ?_
                clear hF
                have hF := And.intro (hwp) (And.intro (hy) (And.intro (hja) (And.intro (hjb) (And.intro (hjc) (And.intro (hje) (And.intro (hpa) (And.intro (hpb) (And.intro (hpc) (And.intro (hpe) (hN))))))))))
                repeat (first | refine wD1 ?_ | refine wD2 ?_ | refine wE1 ?_ | refine wE2 ?_ | (refine wE3 ?_; intro _) | (refine wE4 ?_; intro _) | refine wN ?_ | ((with_reducible show evIs _ (_ :: _) _ _); first | refine wQ ?_ | refine wF ?_ | refine wG ?_ | refine wT ?_ | refine wM ?_ | refine wS ?_ | refine wP ?_ | refine wJ ?_ | refine wX ?_ | refine wY ?_ | refine wZ ?_))
                clear hF
                repeat refine evDone ?_
                try (show AW _ _ _ _ _)
                repeat refine AW.seq ?_
                refine AW.condT (by simp []) (by simp []) ?_
                refine AW.exit ?_
                refine ⟨rfl, ys, ⟨hy, hs, hr⟩, ?_⟩
                refine Fit.mk _ _ _ (by simp [hN, conv2, newEmp, convs_refl, convs, conv]) (by simp [hN, heapFit, newEmp, conv2s, conv2, convs_refl, convs, conv]) (by intro q hq; first | (simp at hq; done) | (simp at hq; omega) | (simp at hq; simp; omega))
              | true =>
                have h35 := c35t hc
                repeat refine AW.seq ?_
                refine AW.draw ?_
                have hF := And.intro (hwp) (And.intro (hy) (And.intro (hja) (And.intro (hjb) (And.intro (hjc) (And.intro (hje) (And.intro (hpa) (And.intro (hpb) (And.intro (hpc) (And.intro (hpe) (hN))))))))))
                repeat (first | refine wD1 ?_ | refine wD2 ?_ | refine wE1 ?_ | refine wE2 ?_ | (refine wE3 ?_; intro _) | (refine wE4 ?_; intro _) | refine wN ?_ | ((with_reducible show evIs _ (_ :: _) _ _); first | refine wQ ?_ | refine wF ?_ | refine wG ?_ | refine wT ?_ | refine wM ?_ | refine wS ?_ | refine wP ?_ | refine wJ ?_ | refine wX ?_ | refine wY ?_ | refine wZ ?_))
                clear hF
                repeat refine evDone ?_
                try (show AW _ _ _ _ _)
                have hF := hN
                refine wV (hA := h35) ?_
                clear hF
                have hF := And.intro (hwp) (And.intro (hy) (And.intro (hja) (And.intro (hjb) (And.intro (hjc) (And.intro (hje) (And.intro (hpa) (And.intro (hpb) (And.intro (hpc) (And.intro (hpe) (hN))))))))))
                repeat (first | refine wD1 ?_ | refine wD2 ?_ | refine wE1 ?_ | refine wE2 ?_ | (refine wE3 ?_; intro _) | (refine wE4 ?_; intro _) | refine wN ?_ | ((with_reducible show evIs _ (_ :: _) _ _); first | refine wQ ?_ | refine wF ?_ | refine wG ?_ | refine wT ?_ | refine wM ?_ | refine wS ?_ | refine wP ?_ | refine wJ ?_ | refine wX ?_ | refine wY ?_ | refine wZ ?_))
                clear hF
                repeat refine evDone ?_
                try (show AW _ _ _ _ _)
                repeat refine AW.seq ?_
                refine AW.condF (by simp []) (by simp []) ?_
                refine AW.skip ?_
                show AW _ _ _ _ _
                have hse := it_av (xs := ys.set j (it ys p)) (i := p) (by simp; omega)
                rw [← set_av] at hse
                repeat refine AW.seq ?_
                refine AW.draw ?_
                have hF := And.intro (hy) (And.intro (hwp) (And.intro (hja) (And.intro (hjb) (And.intro (hjc) (And.intro (hje) (And.intro (hpa) (And.intro (hpb) (And.intro (hpc) (And.intro (hpe) (And.intro (hse) (hN)))))))))))
                repeat (first | refine wD1 ?_ | refine wD2 ?_ | refine wE1 ?_ | refine wE2 ?_ | (refine wE3 ?_; intro _) | (refine wE4 ?_; intro _) | refine wN ?_ | ((with_reducible show evIs _ (_ :: _) _ _); first | refine wQ ?_ | refine wF ?_ | refine wG ?_ | refine wT ?_ | refine wM ?_ | refine wS ?_ | refine wP ?_ | refine wJ ?_ | refine wX ?_ | refine wY ?_ | refine wZ ?_))
                clear hF
                repeat refine evDone ?_
                try (show AW _ _ _ _ _)
                repeat refine AW.seq ?_
                refine AW.reg ?_
                have hF := And.intro (hwe) (hN)
                repeat (first | refine wD1 ?_ | refine wD2 ?_ | refine wE1 ?_ | refine wE2 ?_ | (refine wE3 ?_; intro _) | (refine wE4 ?_; intro _) | refine wN ?_ | ((with_reducible show evIs _ (_ :: _) _ _); first | refine wQ ?_ | refine wF ?_ | refine wG ?_ | refine wT ?_ | refine wM ?_ | refine wS ?_ | refine wP ?_ | refine wJ ?_ | refine wX ?_ | refine wY ?_ | refine wZ ?_))
                clear hF
                repeat refine evDone ?_
                try (show AW _ _ _ _ _)
                refine ⟨(swap ys j p, e), ⟨by rw [swap_len]; exact hy, by dsimp only; omega, by dsimp only; omega, hs.swap (by omega) (by omega) (by omega) (by omega) (by omega), srt_swap_out hr (by omega) (by omega) (by omega) (by omega)⟩, by dsimp only; omega, ?_⟩
                refine Fit.mk _ _ _ (by simp [swap, Item.av, hwe, hN, conv2, newEmp, convs_refl, convs, conv]) (by simp [swap, Item.av, hwe, hN, heapFit, newEmp, conv2s, conv2, convs_refl, convs, conv]) (by intro q hq; first | (simp at hq; done) | (simp at hq; omega) | (simp at hq; simp; omega))
            · have hj0' : ¬ (j : Int) < b := by omega
              repeat refine AW.seq ?_
              refine AW.reg ?_
              have hF := And.intro (hj0') (hN)
              repeat (first | refine wD1 ?_ | refine wD2 ?_ | refine wE1 ?_ | refine wE2 ?_ | (refine wE3 ?_; intro _) | (refine wE4 ?_; intro _) | refine wN ?_ | ((with_reducible show evIs _ (_ :: _) _ _); first | refine wQ ?_ | refine wF ?_ | refine wG ?_ | refine wT ?_ | refine wM ?_ | refine wS ?_ | refine wP ?_ | refine wJ ?_ | refine wX ?_ | refine wY ?_ | refine wZ ?_))
              clear hF
              repeat refine evDone ?_
              try (show AW _ _ _ _ _)
              repeat refine AW.seq ?_
              refine AW.condF (by simp [hj0']) (by simp [hj0']) ?_
              refine AW.exit ?_
              refine ⟨rfl, ys, ⟨hy, hs, hr⟩, ?_⟩
              refine Fit.mk _ _ _ (by simp [hN, conv2, newEmp, convs_refl, convs, conv]) (by simp [hN, heapFit, newEmp, conv2s, conv2, convs_refl, convs, conv]) (by intro q hq; first | (simp at hq; done) | (simp at hq; omega) | (simp at hq; simp; omega))
          · have hf2' : ¬ (2 : Int) ≤ f := by omega
            have hF := And.intro (hwf) (And.intro (hf2') (hN))
            repeat (first | refine wD1 ?_ | refine wD2 ?_ | refine wE1 ?_ | refine wE2 ?_ | (refine wE3 ?_; intro _) | (refine wE4 ?_; intro _) | refine wN ?_ | ((with_reducible show evIs _ (_ :: _) _ _); first | refine wQ ?_ | refine wF ?_ | refine wG ?_ | refine wT ?_ | refine wM ?_ | refine wS ?_ | refine wP ?_ | refine wJ ?_ | refine wX ?_ | refine wY ?_ | refine wZ ?_))
            clear hF
            repeat refine evDone ?_
            try (show AW _ _ _ _ _)
            repeat refine AW.seq ?_
            refine AW.condF (by simp [hf2']) (by simp [hf2']) ?_
            refine AW.skip ?_
            refine ⟨rfl, zs, ⟨hy, hs, hr⟩, ?_⟩
            refine Fit.mk _ _ _ (by simp [hN, conv2, newEmp, convs_refl, convs, conv]) (by simp [hN, heapFit, newEmp, conv2s, conv2, convs_refl, convs, conv]) (by intro q hq; first | (simp at hq; done) | (simp at hq; omega) | (simp at hq; simp; omega))
        rintro ys ⟨hy, hs, hr⟩
        show AW _ _ _ _ _
        rw [mkS_eq]
        refine AW.reg ?_
        have hF := And.intro (hwc) (hN)
        repeat (first | refine wD1 ?_ | refine wD2 ?_ | refine wE1 ?_ | refine wE2 ?_ | (refine wE3 ?_; intro _) | (refine wE4 ?_; intro _) | refine wN ?_ | ((with_reducible show evIs _ (_ :: _) _ _); first | refine wQ ?_ | refine wF ?_ | refine wG ?_ | refine wT ?_ | refine wM ?_ | refine wS ?_ | refine wP ?_ | refine wJ ?_ | refine wX ?_ | refine wY ?_ | refine wZ ?_))
        clear hF
        repeat refine evDone ?_
        try (show AW _ _ _ _ _)
        refine ⟨(ys, i, c1), ⟨hy, hai, hibn, by dsimp only; omega, hs, hr⟩, by dsimp only; omega, ?_⟩
        refine Fit.mk _ _ _ (by simp [hwc, hN, conv2, newEmp, convs_refl, convs, conv]) (by simp [hwc, hN, heapFit, newEmp, conv2s, conv2, convs_refl, convs, conv]) (by intro q hq; first | (simp at hq; done) | (simp at hq; omega) | (simp at hq; simp; omega))
  · have hc' : ¬ (c : Int) < 5 := by omega
    repeat refine AW.seq ?_
    refine AW.reg ?_
    have hF := And.intro (hc') (hN)
    repeat (first | refine wD1 ?_ | refine wD2 ?_ | refine wE1 ?_ | refine wE2 ?_ | (refine wE3 ?_; intro _) | (refine wE4 ?_; intro _) | refine wN ?_ | ((with_reducible show evIs _ (_ :: _) _ _); first | refine wQ ?_ | refine wF ?_ | refine wG ?_ | refine wT ?_ | refine wM ?_ | refine wS ?_ | refine wP ?_ | refine wJ ?_ | refine wX ?_ | refine wY ?_ | refine wZ ?_))
    clear hF
    repeat refine evDone ?_
    try (show AW _ _ _ _ _)
    repeat refine AW.seq ?_
    refine AW.condF (by simp [hc']) (by simp [hc']) ?_
    refine AW.exit ?_
    show AW _ _ _ _ _
    repeat refine AW.seq ?_
    refine AW.reg ?_
    have hF := hN
    repeat (first | refine wD1 ?_ | refine wD2 ?_ | refine wE1 ?_ | refine wE2 ?_ | (refine wE3 ?_; intro _) | (refine wE4 ?_; intro _) | refine wN ?_ | ((with_reducible show evIs _ (_ :: _) _ _); first | refine wQ ?_ | refine wF ?_ | refine wG ?_ | refine wT ?_ | refine wM ?_ | refine wS ?_ | refine wP ?_ | refine wJ ?_ | refine wX ?_ | refine wY ?_ | refine wZ ?_))
    clear hF
    repeat refine evDone ?_
    try (show AW _ _ _ _ _)
    refine AW.ret ⟨by simp [resP, a47_res, ARes.op, hN], [(H, ⟨2, false, ys.map Item.av⟩)], N + 1000, [.bool false], ⟨ys, rfl, rfl, false, rfl, hs, fun h => absurd h (by simp)⟩, by omega, by simp [hN], rfl, by simp, ?_⟩
    simp only [resV, a47_res, List.map_cons, List.map_nil, ARes.op]
    refine Fit.mk _ _ _ (by simp [hN, conv2, newEmp, convs_refl, convs, conv]) (by simp [hN, heapFit, newEmp, conv2s, conv2, convs_refl, convs, conv]) (by intro q hq; first | (simp at hq; done) | (simp at hq; omega) | (simp at hq; simp; omega))
end Go.Proofs.Ytljahaeachdjmaa
