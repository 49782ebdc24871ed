/- Chapter 37, twenty-second part: heap sort. -/
import Derived.Test.YtljahaeachdjmaaT1

set_option linter.unusedSimpArgs false
set_option linter.unusedVariables false
set_option maxHeartbeats 8000000
namespace Go.Proofs.Ytljahaeachdjmaa
open Go Go.Amb Go.IntWalk

theorem f52 (N H : Nat) (hH : H < N) (xs : List Item) (lo hi f : Nat) (hfh : f + hi ≤ xs.length) (hlo : lo ≤ 200) (hl : xs.length ≤ 200) (h0 : Hp (lo + 1) hi f xs) :
    BCall Try.prog 52 [(H, ⟨2, false, xs.map Item.av⟩)] N [.hdr H 0 xs.length, .int .i64 lo, .int .i64 hi, .int .i64 f, .fn 35 []] (SP N H fun ys v => Sam f (f + hi) xs ys ∧ Hp lo hi f ys ∧ v = .tup []) := by
  have hN : (∀ q, (H = N + q) = False) ∧ (∀ q, (N + q = H) = False) ∧ (H = N) = False ∧ (N = H) = False ∧ (∀ q, H < N + q) ∧ (∀ q, (N + q < N) = False) ∧ H < N := by
    refine ⟨?_, ?_, ?_, ?_, ?_, ?_, ?_⟩ <;> first | exact fun q => eq_false (by omega) | exact eq_false (by omega) | exact fun q => by omega | omega
  refine bcall_coded a52_ok (by simp) ?_
  generalize hn : xs.length = n at *
  rw [mkS_eq]
  repeat refine AW.seq ?_
  refine AW.reg ?_
  have hF := hN
  repeat (first | refine wD1 ?_ | refine wD2 ?_ | refine wE1 ?_ | refine wE2 ?_ | (refine wE3 ?_; intro _) | (refine wE4 ?_; intro _) | refine wN ?_ | ((with_reducible show evIs _ (_ :: _) _ _); first | refine wQ ?_ | refine wF ?_ | refine wG ?_ | refine wT ?_ | refine wM ?_ | refine wS ?_ | refine wP ?_ | refine wJ ?_ | refine wX ?_ | refine wY ?_ | refine wZ ?_))
  clear hF
  repeat refine evDone ?_
  try (show AW _ _ _ _ _)
  repeat refine AW.seq ?_
  refine AW.block ?_
  refine AW.loop (fun g : List Item × Nat => g.1.length = n ∧ lo ≤ g.2 ∧ g.2 ≤ 400 ∧ Sam f (f + hi) xs g.1 ∧ SI lo hi f g.2 g.1) (fun g => mkS [(0, .hdr H 0 n), (1, .int .i64 lo), (2, .int .i64 hi), (3, .int .i64 f), (4, .fn 35 []), (10, .int .i64 g.2)] [(H, ⟨2, false, g.1.map Item.av⟩)] N) (fun g => hi - g.2) (xs, lo) ⟨hn, by simp, by dsimp only; omega, Sam.refl _ _ _, si_start h0⟩ ?_ ?_
  · refine Fit.mk _ _ _ (by simp [hN, conv2, newEmp, convs_refl, convs, conv]) (by simp [hN, heapFit, newEmp, conv2s, conv2, convs_refl, convs, conv]) (by intro q hq; first | (simp at hq; done) | (simp at hq; omega) | (simp at hq; simp; omega))
  rintro ⟨ys, r⟩ ⟨hy, hlr, hr3, hs, hr⟩
  dsimp only at hy hlr hr3 hs hr ⊢
  have hr2 : r ≤ 400 ∨ 400 < r := by omega
  obtain ⟨c, hcd⟩ : ∃ c, c = 2 * r + 1 := ⟨_, rfl⟩
  rcases hr2 with hr2 | hr2
  · have hw1 : IntKind.i64.wrap (2 * (r : Int)) = (2 * r : Int) := by rw [show 2 * (r : Int) = (2 * r : Int) by omega]; exact i64_in _ ⟨by omega, by omega⟩
    have hw2 : IntKind.i64.wrap (2 * (r : Int) + 1) = (c : Int) := by rw [show 2 * (r : Int) + 1 = (c : Int) by omega]; exact i64_in _ ⟨by omega, by omega⟩
    refine AW.block ?_
    repeat refine AW.seq ?_
    refine AW.reg ?_
    have hF := And.intro (hw1) (And.intro (hw2) (hN))
    repeat (first | refine wD1 ?_ | refine wD2 ?_ | refine wE1 ?_ | refine wE2 ?_ | (refine wE3 ?_; intro _) | (refine wE4 ?_; intro _) | refine wN ?_ | ((with_reducible show evIs _ (_ :: _) _ _); first | refine wQ ?_ | refine wF ?_ | refine wG ?_ | refine wT ?_ | refine wM ?_ | refine wS ?_ | refine wP ?_ | refine wJ ?_ | refine wX ?_ | refine wY ?_ | refine wZ ?_))
    clear hF
    repeat refine evDone ?_
    try (show AW _ _ _ _ _)
    repeat refine AW.seq ?_
    refine AW.reg ?_
    by_cases hch : c < hi
    · have hch' : ¬ (hi : Int) ≤ c := by omega
      have hm1 : c = 2 * r + 1 ∨ c = 2 * r + 2 := .inl hcd
      obtain ⟨e, he⟩ : ∃ e, e = c + 1 := ⟨_, rfl⟩
      obtain ⟨u, hu⟩ : ∃ u, u = f + c := ⟨_, rfl⟩
      obtain ⟨z, hz⟩ : ∃ z, z = f + e := ⟨_, rfl⟩
      have hwe : IntKind.i64.wrap ((c : Int) + 1) = (e : Int) := by rw [show (c : Int) + 1 = (e : Int) by omega]; exact i64_in _ ⟨by omega, by omega⟩
      have hwu : IntKind.i64.wrap ((f : Int) + (c : Int)) = (u : Int) := by rw [show (f : Int) + (c : Int) = (u : Int) by omega]; exact i64_in _ ⟨by omega, by omega⟩
      have hww : IntKind.i64.wrap ((u : Int) + 1) = (z : Int) := by rw [show (u : Int) + 1 = (z : Int) by omega]; exact i64_in _ ⟨by omega, by omega⟩
      have hF := And.intro (hch') (hN)
      repeat (first | refine wD1 ?_ | refine wD2 ?_ | refine wE1 ?_ | refine wE2 ?_ | (refine wE3 ?_; intro _) | (refine wE4 ?_; intro _) | refine wN ?_ | ((with_reducible show evIs _ (_ :: _) _ _); first | refine wQ ?_ | refine wF ?_ | refine wG ?_ | refine wT ?_ | refine wM ?_ | refine wS ?_ | refine wP ?_ | refine wJ ?_ | refine wX ?_ | refine wY ?_ | refine wZ ?_))
      clear hF
      repeat refine evDone ?_
      try (show AW _ _ _ _ _)
      repeat refine AW.seq ?_
      refine AW.condF (by simp [hch']) (by simp [hch']) ?_
      refine AW.skip ?_
      show AW _ _ _ _ _
      by_cases heh : e < hi
      · have heh' : (e : Int) < hi := by omega
        have hua : (0 : Int) ≤ u := by omega
        have hub : (u : Int) < n := by omega
        have huc : u < n := by omega
        have hue := it_av (xs := ys) (i := u) (by omega)
        have hza : (0 : Int) ≤ z := by omega
        have hzb : (z : Int) < n := by omega
        have hzc : z < n := by omega
        have hze := it_av (xs := ys) (i := z) (by omega)
        cases hd : bef (it ys u) (it ys z) with
        | false =>
          have h35 := c35f hd
          repeat refine AW.seq ?_
          refine AW.draw ?_
          have hF := And.intro (hwe) (And.intro (heh') (And.intro (hwu) (And.intro (hww) (And.intro (hy) (And.intro (hua) (And.intro (hub) (And.intro (huc) (And.intro (hue) (And.intro (hza) (And.intro (hzb) (And.intro (hzc) (And.intro (hze) (hN)))))))))))))
          repeat (first | refine wD1 ?_ | refine wD2 ?_ | refine wE1 ?_ | refine wE2 ?_ | (refine wE3 ?_; intro _) | (refine wE4 ?_; intro _) | refine wN ?_ | ((with_reducible show evIs _ (_ :: _) _ _); first | refine wQ ?_ | refine wF ?_ | refine wG ?_ | refine wT ?_ | refine wM ?_ | refine wS ?_ | refine wP ?_ | refine wJ ?_ | refine wX ?_ | refine wY ?_ | refine wZ ?_))
          clear hF
          repeat refine evDone ?_
          try (show AW _ _ _ _ _)
          have hF := hN
          refine wV (hA := h35) ?_
          clear hF
          have hF := And.intro (hwe) (And.intro (heh') (And.intro (hwu) (And.intro (hww) (And.intro (hy) (And.intro (hua) (And.intro (hub) (And.intro (huc) (And.intro (hue) (And.intro (hza) (And.intro (hzb) (And.intro (hzc) (And.intro (hze) (hN)))))))))))))
          repeat (first | refine wD1 ?_ | refine wD2 ?_ | refine wE1 ?_ | refine wE2 ?_ | (refine wE3 ?_; intro _) | (refine wE4 ?_; intro _) | refine wN ?_ | ((with_reducible show evIs _ (_ :: _) _ _); first | refine wQ ?_ | refine wF ?_ | refine wG ?_ | refine wT ?_ | refine wM ?_ | refine wS ?_ | refine wP ?_ | refine wJ ?_ | refine wX ?_ | refine wY ?_ | refine wZ ?_))
          clear hF
          repeat refine evDone ?_
          try (show AW _ _ _ _ _)
          repeat refine AW.seq ?_
          refine AW.condF (by simp []) (by simp []) ?_
          refine AW.skip ?_
          show AW _ _ _ _ _
          obtain ⟨m, hmc⟩ : ∃ m, m = c := ⟨_, rfl⟩
          rw [← hmc]
          have hm : m = 2 * r + 1 ∨ m = 2 * r + 2 := by omega
          have hmh : m < hi := by omega
          have ho : ∀ k, (k = 2 * r + 1 ∨ k = 2 * r + 2) → k < hi → Ple (it ys (f + k)) (it ys (f + m)) := by
            intro k h1 h2
            by_cases hk : k = m
            · subst hk; exact Ple.refl _
            · rw [show f + k = z by omega, show f + m = u by omega]; exact hd
          obtain ⟨p, hp⟩ : ∃ p, p = f + r := ⟨_, rfl⟩
          obtain ⟨q, hq⟩ : ∃ q, q = f + m := ⟨_, rfl⟩
          have hwp : IntKind.i64.wrap ((f : Int) + (r : Int)) = (p : Int) := by rw [show (f : Int) + (r : Int) = (p : Int) by omega]; exact i64_in _ ⟨by omega, by omega⟩
          have hwq : IntKind.i64.wrap ((f : Int) + (m : Int)) = (q : Int) := by rw [show (f : Int) + (m : Int) = (q : Int) by omega]; exact i64_in _ ⟨by omega, by omega⟩
          have hpa : (0 : Int) ≤ p := by omega
          have hpb : (p : Int) < n := by omega
          have hpc : p < n := by omega
          have hpe := it_av (xs := ys) (i := p) (by omega)
          have hqa : (0 : Int) ≤ q := by omega
          have hqb : (q : Int) < n := by omega
          have hqc : q < n := by omega
          have hqe := it_av (xs := ys) (i := q) (by omega)
          have hse := it_av (xs := ys.set p (it ys q)) (i := q) (by simp; omega)
          rw [← set_av] at hse
          cases hc : bef (it ys p) (it ys q) with
          | false =>
            have h35 := c35f hc
            repeat refine AW.seq ?_
            refine AW.draw ?_
            have hF := And.intro (hwp) (And.intro (hwq) (And.intro (hy) (And.intro (hpa) (And.intro (hpb) (And.intro (hpc) (And.intro (hpe) (And.intro (hqa) (And.intro (hqb) (And.intro (hqc) (And.intro (hqe) (hN)))))))))))
            repeat (first | refine wD1 ?_ | refine wD2 ?_ | refine wE1 ?_ | refine wE2 ?_ | (refine wE3 ?_; intro _) | (refine wE4 ?_; intro _) | refine wN ?_ | ((with_reducible show evIs _ (_ :: _) _ _); first | refine wQ ?_ | refine wF ?_ | refine wG ?_ | refine wT ?_ | refine wM ?_ | refine wS ?_ | refine wP ?_ | refine wJ ?_ | refine wX ?_ | refine wY ?_ | refine wZ ?_))
            clear hF
            repeat refine evDone ?_
            try (show AW _ _ _ _ _)
            have hF := hN
            refine wV (hA := h35) ?_
            clear hF
            have hF := And.intro (hwp) (And.intro (hwq) (And.intro (hy) (And.intro (hpa) (And.intro (hpb) (And.intro (hpc) (And.intro (hpe) (And.intro (hqa) (And.intro (hqb) (And.intro (hqc) (And.intro (hqe) (hN)))))))))))
            repeat (first | refine wD1 ?_ | refine wD2 ?_ | refine wE1 ?_ | refine wE2 ?_ | (refine wE3 ?_; intro _) | (refine wE4 ?_; intro _) | refine wN ?_ | ((with_reducible show evIs _ (_ :: _) _ _); first | refine wQ ?_ | refine wF ?_ | refine wG ?_ | refine wT ?_ | refine wM ?_ | refine wS ?_ | refine wP ?_ | refine wJ ?_ | refine wX ?_ | refine wY ?_ | refine wZ ?_))
            clear hF
            repeat refine evDone ?_
            try (show AW _ _ _ _ _)
            repeat refine AW.seq ?_
            refine AW.condT (by simp []) (by simp []) ?_
            refine AW.ret ⟨by simp [resP, a52_res, ARes.op], [(H, ⟨2, false, ys.map Item.av⟩)], N + 1000, [], ⟨ys, rfl, rfl, hs, si_end hr (fun c h1 h2 => by subst hp; subst hq; exact (ho c h1 h2).trans hc), rfl⟩, by omega, by simp [hN], rfl, by simp, ?_⟩
            simp only [resV, a52_res, List.map_nil]
            refine Fit.mk _ _ _ (by simp [hN, conv2, newEmp, convs_refl, convs, conv]) (by simp [hN, heapFit, newEmp, conv2s, conv2, convs_refl, convs, conv]) (by intro q hq; first | (simp at hq; done) | (simp at hq; omega) | (simp at hq; simp; omega))
          | true =>
            have h35 := c35t hc
            repeat refine AW.seq ?_
            refine AW.draw ?_
            have hF := And.intro (hwp) (And.intro (hwq) (And.intro (hy) (And.intro (hpa) (And.intro (hpb) (And.intro (hpc) (And.intro (hpe) (And.intro (hqa) (And.intro (hqb) (And.intro (hqc) (And.intro (hqe) (hN)))))))))))
            repeat (first | refine wD1 ?_ | refine wD2 ?_ | refine wE1 ?_ | refine wE2 ?_ | (refine wE3 ?_; intro _) | (refine wE4 ?_; intro _) | refine wN ?_ | ((with_reducible show evIs _ (_ :: _) _ _); first | refine wQ ?_ | refine wF ?_ | refine wG ?_ | refine wT ?_ | refine wM ?_ | refine wS ?_ | refine wP ?_ | refine wJ ?_ | refine wX ?_ | refine wY ?_ | refine wZ ?_))
            clear hF
            repeat refine evDone ?_
            try (show AW _ _ _ _ _)
            have hF := hN
            refine wV (hA := h35) ?_
            clear hF
            have hF := And.intro (hwp) (And.intro (hwq) (And.intro (hy) (And.intro (hpa) (And.intro (hpb) (And.intro (hpc) (And.intro (hpe) (And.intro (hqa) (And.intro (hqb) (And.intro (hqc) (And.intro (hqe) (hN)))))))))))
            repeat (first | refine wD1 ?_ | refine wD2 ?_ | refine wE1 ?_ | refine wE2 ?_ | (refine wE3 ?_; intro _) | (refine wE4 ?_; intro _) | refine wN ?_ | ((with_reducible show evIs _ (_ :: _) _ _); first | refine wQ ?_ | refine wF ?_ | refine wG ?_ | refine wT ?_ | refine wM ?_ | refine wS ?_ | refine wP ?_ | refine wJ ?_ | refine wX ?_ | refine wY ?_ | refine wZ ?_))
            clear hF
            repeat refine evDone ?_
            try (show AW _ _ _ _ _)
            repeat refine AW.seq ?_
            refine AW.condF (by simp []) (by simp []) ?_
            refine AW.skip ?_
            show AW _ _ _ _ _
            repeat refine AW.seq ?_
            refine AW.draw ?_
            have hF := And.intro (hwp) (And.intro (hwq) (And.intro (hy) (And.intro (hpa) (And.intro (hpb) (And.intro (hpc) (And.intro (hpe) (And.intro (hqa) (And.intro (hqb) (And.intro (hqc) (And.intro (hqe) (And.intro (hse) (hN))))))))))))
            repeat (first | refine wD1 ?_ | refine wD2 ?_ | refine wE1 ?_ | refine wE2 ?_ | (refine wE3 ?_; intro _) | (refine wE4 ?_; intro _) | refine wN ?_ | ((with_reducible show evIs _ (_ :: _) _ _); first | refine wQ ?_ | refine wF ?_ | refine wG ?_ | refine wT ?_ | refine wM ?_ | refine wS ?_ | refine wP ?_ | refine wJ ?_ | refine wX ?_ | refine wY ?_ | refine wZ ?_))
            clear hF
            repeat refine evDone ?_
            try (show AW _ _ _ _ _)
            repeat refine AW.seq ?_
            refine AW.reg ?_
            have hF := hN
            repeat (first | refine wD1 ?_ | refine wD2 ?_ | refine wE1 ?_ | refine wE2 ?_ | (refine wE3 ?_; intro _) | (refine wE4 ?_; intro _) | refine wN ?_ | ((with_reducible show evIs _ (_ :: _) _ _); first | refine wQ ?_ | refine wF ?_ | refine wG ?_ | refine wT ?_ | refine wM ?_ | refine wS ?_ | refine wP ?_ | refine wJ ?_ | refine wX ?_ | refine wY ?_ | refine wZ ?_))
            clear hF
            repeat refine evDone ?_
            try (show AW _ _ _ _ _)
            refine ⟨(swap ys p q, m), ⟨by rw [swap_len]; exact hy, by dsimp only; omega, by dsimp only; omega, hs.swap (by omega) (by omega) (by omega) (by omega) (by omega), by subst hp; subst hq; exact si_step hr hlr hm hmh (by omega) ho hc⟩, by dsimp only; omega, ?_⟩
            refine Fit.mk _ _ _ (by simp [swap, Item.av, hwp, hwq, hN, conv2, newEmp, convs_refl, convs, conv]) (by simp [swap, Item.av, hwp, hwq, hN, heapFit, newEmp, conv2s, conv2, convs_refl, convs, conv]) (by intro q hq; first | (simp at hq; done) | (simp at hq; omega) | (simp at hq; simp; omega))
        | true =>
          have h35 := c35t hd
          repeat refine AW.seq ?_
          refine AW.draw ?_
          have hF := And.intro (hwe) (And.intro (heh') (And.intro (hwu) (And.intro (hww) (And.intro (hy) (And.intro (hua) (And.intro (hub) (And.intro (huc) (And.intro (hue) (And.intro (hza) (And.intro (hzb) (And.intro (hzc) (And.intro (hze) (hN)))))))))))))
          repeat (first | refine wD1 ?_ | refine wD2 ?_ | refine wE1 ?_ | refine wE2 ?_ | (refine wE3 ?_; intro _) | (refine wE4 ?_; intro _) | refine wN ?_ | ((with_reducible show evIs _ (_ :: _) _ _); first | refine wQ ?_ | refine wF ?_ | refine wG ?_ | refine wT ?_ | refine wM ?_ | refine wS ?_ | refine wP ?_ | refine wJ ?_ | refine wX ?_ | refine wY ?_ | refine wZ ?_))
          clear hF
          repeat refine evDone ?_
          try (show AW _ _ _ _ _)
          have hF := hN
          refine wV (hA := h35) ?_
          clear hF
          have hF := And.intro (hwe) (And.intro (heh') (And.intro (hwu) (And.intro (hww) (And.intro (hy) (And.intro (hua) (And.intro (hub) (And.intro (huc) (And.intro (hue) (And.intro (hza) (And.intro (hzb) (And.intro (hzc) (And.intro (hze) (hN)))))))))))))
          repeat (first | refine wD1 ?_ | refine wD2 ?_ | refine wE1 ?_ | refine wE2 ?_ | (refine wE3 ?_; intro _) | (refine wE4 ?_; intro _) | refine wN ?_ | ((with_reducible show evIs _ (_ :: _) _ _); first | refine wQ ?_ | refine wF ?_ | refine wG ?_ | refine wT ?_ | refine wM ?_ | refine wS ?_ | refine wP ?_ | refine wJ ?_ | refine wX ?_ | refine wY ?_ | refine wZ ?_))
          clear hF
          repeat refine evDone ?_
          try (show AW _ _ _ _ _)
          repeat refine AW.seq ?_
          refine AW.condT (by simp []) (by simp []) ?_
          repeat refine AW.seq ?_
          refine AW.reg ?_
          have hF := And.intro (hwe) (hN)
          repeat (first | refine wD1 ?_ | refine wD2 ?_ | refine wE1 ?_ | refine wE2 ?_ | (refine wE3 ?_; intro _) | (refine wE4 ?_; intro _) | refine wN ?_ | ((with_reducible show evIs _ (_ :: _) _ _); first | refine wQ ?_ | refine wF ?_ | refine wG ?_ | refine wT ?_ | refine wM ?_ | refine wS ?_ | refine wP ?_ | refine wJ ?_ | refine wX ?_ | refine wY ?_ | refine wZ ?_))
          clear hF
          repeat refine evDone ?_
          try (show AW _ _ _ _ _)
          obtain ⟨m, hmc⟩ : ∃ m, m = e := ⟨_, rfl⟩
          rw [← hmc]
          have hm : m = 2 * r + 1 ∨ m = 2 * r + 2 := by omega
          have hmh : m < hi := by omega
          have ho : ∀ k, (k = 2 * r + 1 ∨ k = 2 * r + 2) → k < hi → Ple (it ys (f + k)) (it ys (f + m)) := by
            intro k h1 h2
            by_cases hk : k = m
            · subst hk; exact Ple.refl _
            · rw [show f + k = u by omega, show f + m = z by omega]; exact Ple.of_bef hd
          obtain ⟨p, hp⟩ : ∃ p, p = f + r := ⟨_, rfl⟩
          obtain ⟨q, hq⟩ : ∃ q, q = f + m := ⟨_, rfl⟩
          have hwp : IntKind.i64.wrap ((f : Int) + (r : Int)) = (p : Int) := by rw [show (f : Int) + (r : Int) = (p : Int) by omega]; exact i64_in _ ⟨by omega, by omega⟩
          have hwq : IntKind.i64.wrap ((f : Int) + (m : Int)) = (q : Int) := by rw [show (f : Int) + (m : Int) = (q : Int) by omega]; exact i64_in _ ⟨by omega, by omega⟩
          have hpa : (0 : Int) ≤ p := by omega
          have hpb : (p : Int) < n := by omega
          have hpc : p < n := by omega
          have hpe := it_av (xs := ys) (i := p) (by omega)
          have hqa : (0 : Int) ≤ q := by omega
          have hqb : (q : Int) < n := by omega
          have hqc : q < n := by omega
          have hqe := it_av (xs := ys) (i := q) (by omega)
          have hse := it_av (xs := ys.set p (it ys q)) (i := q) (by simp; omega)
          rw [← set_av] at hse
          cases hc : bef (it ys p) (it ys q) with
          | false =>
            have h35 := c35f hc
            repeat refine AW.seq ?_
            refine AW.draw ?_
            have hF := And.intro (hwp) (And.intro (hwq) (And.intro (hy) (And.intro (hpa) (And.intro (hpb) (And.intro (hpc) (And.intro (hpe) (And.intro (hqa) (And.intro (hqb) (And.intro (hqc) (And.intro (hqe) (hN)))))))))))
            repeat (first | refine wD1 ?_ | refine wD2 ?_ | refine wE1 ?_ | refine wE2 ?_ | (refine wE3 ?_; intro _) | (refine wE4 ?_; intro _) | refine wN ?_ | ((with_reducible show evIs _ (_ :: _) _ _); first | refine wQ ?_ | refine wF ?_ | refine wG ?_ | refine wT ?_ | refine wM ?_ | refine wS ?_ | refine wP ?_ | refine wJ ?_ | refine wX ?_ | refine wY ?_ | refine wZ ?_))
            clear hF
            repeat refine evDone ?_
            try (show AW _ _ _ _ _)
            have hF := hN
            refine wV (hA := h35) ?_
            clear hF
            have hF := And.intro (hwp) (And.intro (hwq) (And.intro (hy) (And.intro (hpa) (And.intro (hpb) (And.intro (hpc) (And.intro (hpe) (And.intro (hqa) (And.intro (hqb) (And.intro (hqc) (And.intro (hqe) (hN)))))))))))
            repeat (first | refine wD1 ?_ | refine wD2 ?_ | refine wE1 ?_ | refine wE2 ?_ | (refine wE3 ?_; intro _) | (refine wE4 ?_; intro _) | refine wN ?_ | ((with_reducible show evIs _ (_ :: _) _ _); first | refine wQ ?_ | refine wF ?_ | refine wG ?_ | refine wT ?_ | refine wM ?_ | refine wS ?_ | refine wP ?_ | refine wJ ?_ | refine wX ?_ | refine wY ?_ | refine wZ ?_))
            clear hF
            repeat refine evDone ?_
            try (show AW _ _ _ _ _)
            repeat refine AW.seq ?_
            refine AW.condT (by simp []) (by simp []) ?_
            refine AW.ret ⟨by simp [resP, a52_res, ARes.op], [(H, ⟨2, false, ys.map Item.av⟩)], N + 1000, [], ⟨ys, rfl, rfl, hs, si_end hr (fun c h1 h2 => by subst hp; subst hq; exact (ho c h1 h2).trans hc), rfl⟩, by omega, by simp [hN], rfl, by simp, ?_⟩
            simp only [resV, a52_res, List.map_nil]
            refine Fit.mk _ _ _ (by simp [hN, conv2, newEmp, convs_refl, convs, conv]) (by simp [hN, heapFit, newEmp, conv2s, conv2, convs_refl, convs, conv]) (by intro q hq; first | (simp at hq; done) | (simp at hq; omega) | (simp at hq; simp; omega))
          | true =>
            have h35 := c35t hc
            repeat refine AW.seq ?_
            refine AW.draw ?_
            have hF := And.intro (hwp) (And.intro (hwq) (And.intro (hy) (And.intro (hpa) (And.intro (hpb) (And.intro (hpc) (And.intro (hpe) (And.intro (hqa) (And.intro (hqb) (And.intro (hqc) (And.intro (hqe) (hN)))))))))))
            repeat (first | refine wD1 ?_ | refine wD2 ?_ | refine wE1 ?_ | refine wE2 ?_ | (refine wE3 ?_; intro _) | (refine wE4 ?_; intro _) | refine wN ?_ | ((with_reducible show evIs _ (_ :: _) _ _); first | refine wQ ?_ | refine wF ?_ | refine wG ?_ | refine wT ?_ | refine wM ?_ | refine wS ?_ | refine wP ?_ | refine wJ ?_ | refine wX ?_ | refine wY ?_ | refine wZ ?_))
            clear hF
            repeat refine evDone ?_
            try (show AW _ _ _ _ _)
            have hF := hN
            refine wV (hA := h35) ?_
            clear hF
            have hF := And.intro (hwp) (And.intro (hwq) (And.intro (hy) (And.intro (hpa) (And.intro (hpb) (And.intro (hpc) (And.intro (hpe) (And.intro (hqa) (And.intro (hqb) (And.intro (hqc) (And.intro (hqe) (hN)))))))))))
            repeat (first | refine wD1 ?_ | refine wD2 ?_ | refine wE1 ?_ | refine wE2 ?_ | (refine wE3 ?_; intro _) | (refine wE4 ?_; intro _) | refine wN ?_ | ((with_reducible show evIs _ (_ :: _) _ _); first | refine wQ ?_ | refine wF ?_ | refine wG ?_ | refine wT ?_ | refine wM ?_ | refine wS ?_ | refine wP ?_ | refine wJ ?_ | refine wX ?_ | refine wY ?_ | refine wZ ?_))
            clear hF
            repeat refine evDone ?_
            try (show AW _ _ _ _ _)
            repeat refine AW.seq ?_
            refine AW.condF (by simp []) (by simp []) ?_
            refine AW.skip ?_
            show AW _ _ _ _ _
            repeat refine AW.seq ?_
            refine AW.draw ?_
            have hF := And.intro (hwp) (And.intro (hwq) (And.intro (hy) (And.intro (hpa) (And.intro (hpb) (And.intro (hpc) (And.intro (hpe) (And.intro (hqa) (And.intro (hqb) (And.intro (hqc) (And.intro (hqe) (And.intro (hse) (hN))))))))))))
            repeat (first | refine wD1 ?_ | refine wD2 ?_ | refine wE1 ?_ | refine wE2 ?_ | (refine wE3 ?_; intro _) | (refine wE4 ?_; intro _) | refine wN ?_ | ((with_reducible show evIs _ (_ :: _) _ _); first | refine wQ ?_ | refine wF ?_ | refine wG ?_ | refine wT ?_ | refine wM ?_ | refine wS ?_ | refine wP ?_ | refine wJ ?_ | refine wX ?_ | refine wY ?_ | refine wZ ?_))
            clear hF
            repeat refine evDone ?_
            try (show AW _ _ _ _ _)
            repeat refine AW.seq ?_
            refine AW.reg ?_
            have hF := hN
            repeat (first | refine wD1 ?_ | refine wD2 ?_ | refine wE1 ?_ | refine wE2 ?_ | (refine wE3 ?_; intro _) | (refine wE4 ?_; intro _) | refine wN ?_ | ((with_reducible show evIs _ (_ :: _) _ _); first | refine wQ ?_ | refine wF ?_ | refine wG ?_ | refine wT ?_ | refine wM ?_ | refine wS ?_ | refine wP ?_ | refine wJ ?_ | refine wX ?_ | refine wY ?_ | refine wZ ?_))
            clear hF
            repeat refine evDone ?_
            try (show AW _ _ _ _ _)
            refine ⟨(swap ys p q, m), ⟨by rw [swap_len]; exact hy, by dsimp only; omega, by dsimp only; omega, hs.swap (by omega) (by omega) (by omega) (by omega) (by omega), by subst hp; subst hq; exact si_step hr hlr hm hmh (by omega) ho hc⟩, by dsimp only; omega, ?_⟩
            refine Fit.mk _ _ _ (by simp [swap, Item.av, hwp, hwq, hN, conv2, newEmp, convs_refl, convs, conv]) (by simp [swap, Item.av, hwp, hwq, hN, heapFit, newEmp, conv2s, conv2, convs_refl, convs, conv]) (by intro q hq; first | (simp at hq; done) | (simp at hq; omega) | (simp at hq; simp; omega))
      · have heh' : ¬ (e : Int) < hi := by omega
        repeat refine AW.seq ?_
        refine AW.draw ?_
        have hF := And.intro (hwe) (And.intro (heh') (hN))
        repeat (first | refine wD1 ?_ | refine wD2 ?_ | refine wE1 ?_ | refine wE2 ?_ | refine wE6 ?_ | refine wE7 ?_ | refine wE5 ?_ | refine wN ?_ | ((with_reducible show evIs _ (_ :: _) _ _); first | refine wQ ?_ | refine wF ?_ | refine wG ?_ | refine wT ?_ | refine wM ?_ | refine wS ?_ | refine wP ?_ | refine wJ ?_ | refine wX ?_ | refine wY ?_ | refine wZ ?_))
        clear hF
        repeat refine evDone ?_
        try (show AW _ _ _ _ _)
        repeat refine AW.seq ?_
        refine AW.condF (by simp []) (by simp []) ?_
        refine AW.skip ?_
        show AW _ _ _ _ _
        obtain ⟨m, hmc⟩ : ∃ m, m = c := ⟨_, rfl⟩
        rw [← hmc]
        have hm : m = 2 * r + 1 ∨ m = 2 * r + 2 := by omega
        have hmh : m < hi := by omega
        have ho : ∀ k, (k = 2 * r + 1 ∨ k = 2 * r + 2) → k < hi → Ple (it ys (f + k)) (it ys (f + m)) := by
          intro k h1 h2
          rw [show k = m by omega]; exact Ple.refl _
        obtain ⟨p, hp⟩ : ∃ p, p = f + r := ⟨_, rfl⟩
        obtain ⟨q, hq⟩ : ∃ q, q = f + m := ⟨_, rfl⟩
        have hwp : IntKind.i64.wrap ((f : Int) + (r : Int)) = (p : Int) := by rw [show (f : Int) + (r : Int) = (p : Int) by omega]; exact i64_in _ ⟨by omega, by omega⟩
        have hwq : IntKind.i64.wrap ((f : Int) + (m : Int)) = (q : Int) := by rw [show (f : Int) + (m : Int) = (q : Int) by omega]; exact i64_in _ ⟨by omega, by omega⟩
        have hpa : (0 : Int) ≤ p := by omega
        have hpb : (p : Int) < n := by omega
        have hpc : p < n := by omega
        have hpe := it_av (xs := ys) (i := p) (by omega)
        have hqa : (0 : Int) ≤ q := by omega
        have hqb : (q : Int) < n := by omega
        have hqc : q < n := by omega
        have hqe := it_av (xs := ys) (i := q) (by omega)
        have hse := it_av (xs := ys.set p (it ys q)) (i := q) (by simp; omega)
        rw [← set_av] at hse
        cases hc : bef (it ys p) (it ys q) with
        | false =>
          have h35 := c35f hc
          repeat refine AW.seq ?_
          refine AW.draw ?_
          have hF := And.intro (hwp) (And.intro (hwq) (And.intro (hy) (And.intro (hpa) (And.intro (hpb) (And.intro (hpc) (And.intro (hpe) (And.intro (hqa) (And.intro (hqb) (And.intro (hqc) (And.intro (hqe) (hN)))))))))))
          repeat (first | refine wD1 ?_ | refine wD2 ?_ | refine wE1 ?_ | refine wE2 ?_ | (refine wE3 ?_; intro _) | (refine wE4 ?_; intro _) | refine wN ?_ | ((with_reducible show evIs _ (_ :: _) _ _); first | refine wQ ?_ | refine wF ?_ | refine wG ?_ | refine wT ?_ | refine wM ?_ | refine wS ?_ | refine wP ?_ | refine wJ ?_ | refine wX ?_ | refine wY ?_ | refine wZ ?_))
          clear hF
          repeat refine evDone ?_
          try (show AW _ _ _ _ _)
          have hF := hN
          refine wV (hA := h35) ?_
          clear hF
          have hF := And.intro (hwp) (And.intro (hwq) (And.intro (hy) (And.intro (hpa) (And.intro (hpb) (And.intro (hpc) (And.intro (hpe) (And.intro (hqa) (And.intro (hqb) (And.intro (hqc) (And.intro (hqe) (hN)))))))))))
          repeat (first | refine wD1 ?_ | refine wD2 ?_ | refine wE1 ?_ | refine wE2 ?_ | (refine wE3 ?_; intro _) | (refine wE4 ?_; intro _) | refine wN ?_ | ((with_reducible show evIs _ (_ :: _) _ _); first | refine wQ ?_ | refine wF ?_ | refine wG ?_ | refine wT ?_ | refine wM ?_ | refine wS ?_ | refine wP ?_ | refine wJ ?_ | refine wX ?_ | refine wY ?_ | refine wZ ?_))
          clear hF
          repeat refine evDone ?_
          try (show AW _ _ _ _ _)
          repeat refine AW.seq ?_
          refine AW.condT (by simp []) (by simp []) ?_
          refine AW.ret ⟨by simp [resP, a52_res, ARes.op], [(H, ⟨2, false, ys.map Item.av⟩)], N + 1000, [], ⟨ys, rfl, rfl, hs, si_end hr (fun c h1 h2 => by subst hp; subst hq; exact (ho c h1 h2).trans hc), rfl⟩, by omega, by simp [hN], rfl, by simp, ?_⟩
          simp only [resV, a52_res, List.map_nil]
          refine Fit.mk _ _ _ (by simp [hN, conv2, newEmp, convs_refl, convs, conv]) (by simp [hN, heapFit, newEmp, conv2s, conv2, convs_refl, convs, conv]) (by intro q hq; first | (simp at hq; done) | (simp at hq; omega) | (simp at hq; simp; omega))
        | true =>
          have h35 := c35t hc
          repeat refine AW.seq ?_
          refine AW.draw ?_
          have hF := And.intro (hwp) (And.intro (hwq) (And.intro (hy) (And.intro (hpa) (And.intro (hpb) (And.intro (hpc) (And.intro (hpe) (And.intro (hqa) (And.intro (hqb) (And.intro (hqc) (And.intro (hqe) (hN)))))))))))
          repeat (first | refine wD1 ?_ | refine wD2 ?_ | refine wE1 ?_ | refine wE2 ?_ | (refine wE3 ?_; intro _) | (refine wE4 ?_; intro _) | refine wN ?_ | ((with_reducible show evIs _ (_ :: _) _ _); first | refine wQ ?_ | refine wF ?_ | refine wG ?_ | refine wT ?_ | refine wM ?_ | refine wS ?_ | refine wP ?_ | refine wJ ?_ | refine wX ?_ | refine wY ?_ | refine wZ ?_))
          clear hF
          repeat refine evDone ?_
          try (show AW _ _ _ _ _)
          have hF := hN
          refine wV (hA := h35) ?_
          clear hF
          have hF := And.intro (hwp) (And.intro (hwq) (And.intro (hy) (And.intro (hpa) (And.intro (hpb) (And.intro (hpc) (And.intro (hpe) (And.intro (hqa) (And.intro (hqb) (And.intro (hqc) (And.intro (hqe) (hN)))))))))))
          repeat (first | refine wD1 ?_ | refine wD2 ?_ | refine wE1 ?_ | refine wE2 ?_ | (refine wE3 ?_; intro _) | (refine wE4 ?_; intro _) | refine wN ?_ | ((with_reducible show evIs _ (_ :: _) _ _); first | refine wQ ?_ | refine wF ?_ | refine wG ?_ | refine wT ?_ | refine wM ?_ | refine wS ?_ | refine wP ?_ | refine wJ ?_ | refine wX ?_ | refine wY ?_ | refine wZ ?_))
          clear hF
          repeat refine evDone ?_
          try (show AW _ _ _ _ _)
          repeat refine AW.seq ?_
          refine AW.condF (by simp []) (by simp []) ?_
          refine AW.skip ?_
          show AW _ _ _ _ _
          repeat refine AW.seq ?_
          refine AW.draw ?_
          have hF := And.intro (hwp) (And.intro (hwq) (And.intro (hy) (And.intro (hpa) (And.intro (hpb) (And.intro (hpc) (And.intro (hpe) (And.intro (hqa) (And.intro (hqb) (And.intro (hqc) (And.intro (hqe) (And.intro (hse) (hN))))))))))))
          repeat (first | refine wD1 ?_ | refine wD2 ?_ | refine wE1 ?_ | refine wE2 ?_ | (refine wE3 ?_; intro _) | (refine wE4 ?_; intro _) | refine wN ?_ | ((with_reducible show evIs _ (_ :: _) _ _); first | refine wQ ?_ | refine wF ?_ | refine wG ?_ | refine wT ?_ | refine wM ?_ | refine wS ?_ | refine wP ?_ | refine wJ ?_ | refine wX ?_ | refine wY ?_ | refine wZ ?_))
          clear hF
          repeat refine evDone ?_
          try (show AW _ _ _ _ _)
          repeat refine AW.seq ?_
          refine AW.reg ?_
          have hF := hN
          repeat (first | refine wD1 ?_ | refine wD2 ?_ | refine wE1 ?_ | refine wE2 ?_ | (refine wE3 ?_; intro _) | (refine wE4 ?_; intro _) | refine wN ?_ | ((with_reducible show evIs _ (_ :: _) _ _); first | refine wQ ?_ | refine wF ?_ | refine wG ?_ | refine wT ?_ | refine wM ?_ | refine wS ?_ | refine wP ?_ | refine wJ ?_ | refine wX ?_ | refine wY ?_ | refine wZ ?_))
          clear hF
          repeat refine evDone ?_
          try (show AW _ _ _ _ _)
          refine ⟨(swap ys p q, m), ⟨by rw [swap_len]; exact hy, by dsimp only; omega, by dsimp only; omega, hs.swap (by omega) (by omega) (by omega) (by omega) (by omega), by subst hp; subst hq; exact si_step hr hlr hm hmh (by omega) ho hc⟩, by dsimp only; omega, ?_⟩
          refine Fit.mk _ _ _ (by simp [swap, Item.av, hwp, hwq, hN, conv2, newEmp, convs_refl, convs, conv]) (by simp [swap, Item.av, hwp, hwq, hN, heapFit, newEmp, conv2s, conv2, convs_refl, convs, conv]) (by intro q hq; first | (simp at hq; done) | (simp at hq; omega) | (simp at hq; simp; omega))
    · have hch' : (hi : Int) ≤ c := by omega
      have hF := And.intro (hch') (hN)
      repeat (first | refine wD1 ?_ | refine wD2 ?_ | refine wE1 ?_ | refine wE2 ?_ | (refine wE3 ?_; intro _) | (refine wE4 ?_; intro _) | refine wN ?_ | ((with_reducible show evIs _ (_ :: _) _ _); first | refine wQ ?_ | refine wF ?_ | refine wG ?_ | refine wT ?_ | refine wM ?_ | refine wS ?_ | refine wP ?_ | refine wJ ?_ | refine wX ?_ | refine wY ?_ | refine wZ ?_))
      clear hF
      repeat refine evDone ?_
      try (show AW _ _ _ _ _)
      repeat refine AW.seq ?_
      refine AW.condT (by simp [hch']) (by simp [hch']) ?_
      refine AW.exit ?_
      refine ⟨by simp [resP, a52_res, ARes.op], [(H, ⟨2, false, ys.map Item.av⟩)], N + 1000, [], ⟨ys, rfl, rfl, hs, si_end hr (fun k h1 h2 => absurd h2 (by omega)), rfl⟩, by omega, by simp [hN], rfl, by simp, ?_⟩
      simp only [resV, a52_res, List.map_nil]
      refine Fit.mk _ _ _ (by simp [hN, conv2, newEmp, convs_refl, convs, conv]) (by simp [hN, heapFit, newEmp, conv2s, conv2, convs_refl, convs, conv]) (by intro q hq; first | (simp at hq; done) | (simp at hq; omega) | (simp at hq; simp; omega))
  · exact absurd hr2 (by omega)
end Go.Proofs.Ytljahaeachdjmaa
