/- Chapter 40, a task is given out once: poll. -/
import Derived.Test.YtloccbmiojhabaaS6

set_option linter.unusedSimpArgs false
set_option linter.unusedVariables false
set_option maxHeartbeats 4000000
namespace Go.Proofs.Ytloccbmiojhabaa
open Go Go.Amb Go.IntWalk

theorem poll_cases {m : MS} {k : Nat} (h : Inv m k) (hk : k ≤ 200) : clC (pollR .fro m.xs m.tok hh m.now 5) = .tup [.agg [items m.xs, .int .i64 m.tok], zItem, .bool false, .int .i64 0] ∨
    ∃ (j i : Nat) (x : Item) (tr : Int), m.xs[j]? = some x ∧ x.task = wt (i + 1) ∧ i < m.untl.length ∧ m.untl[i]? = some x.til ∧ m.own[i]? = some x.token ∧ 0 ≤ x.til ∧ x.til ≤ m.now ∧
      clC (pollR .fro m.xs m.tok hh m.now 5) = .tup [.agg [items (m.poll j i x).xs, .int .i64 (m.tok + 1)], .agg [.int .i64 (i + 1), .int .i64 1, .int .i64 0, .int .i64 0, .int .i64 0, .int .i64 0, .str ⟨#[119]⟩, .str ⟨#[114, 49]⟩, .str ⟨#[]⟩, .str hh, .int .i64 (m.tok + 1), .int .i64 (m.now + 5), .int .i64 tr], .bool true, .int .i64 0] := by
  have hn0 := h.now0
  have hn1 := h.now1
  have ht0 := h.tok0
  have ht1 := h.tok1
  have hh1 : ¬ hh = ⟨#[]⟩ := by decide
  have hp : per m.now 5 = true := by simp [per]; omega
  unfold pollR
  rw [if_neg (by simp [hh1, hp])]
  cases h3 : m.xs.findIdx? (avail · m.now) with
  | none =>
    left
    simp only []
    rw [clT4, clC_qv _ (.inl rfl), zItem_av, item_cl, clBool, clInt]
    rfl
  | some j =>
    right
    obtain ⟨hj, hav, -⟩ := List.findIdx?_eq_some_iff_getElem.1 h3
    have hx := List.getElem?_eq_getElem hj
    generalize m.xs[j] = x at hx hav
    obtain ⟨i, a, b, c, d, e⟩ := h.at hx
    have hu := (fits_u e).1
    have hle : x.til ≤ m.now := by
      simp [avail] at hav
      rcases e with ⟨_, _, e, _⟩ | ⟨e, _⟩
      · omega
      · rcases hav.1 with f | f
        · rw [e] at f; exact absurd f hh1
        · exact f
    refine ⟨j, i, x, IntKind.i64.wrap (x.tries + 1), hx, a, b, c, d, hu, hle, ?_⟩
    simp only []
    rw [hx]
    simp only []
    rw [if_neg (by omega), clT4, clC_qv _ (.inr ⟨_, rfl⟩), item_cl, clBool, clInt]
    have hw1 : IntKind.i64.wrap (m.tok + 1) = m.tok + 1 := i64w (by omega) (by omega)
    have hw2 : IntKind.i64.wrap (m.now + 5) = m.now + 5 := i64w (by omega) (by omega)
    simp only [qq, MS.poll, given, Item.av, a, wt, hw1, hw2]
theorem f25 {m : MS} {k : Nat} (h : Inv m k) (h' : Inv m (k + 1)) (hk : k ≤ 200) (N rt ru ro : Nat) (hR : Roots N rt ru ro) (hN7 : 7 < N) : BCall Try.prog 25 (heapv m rt ru ro) N [.ptr 7 0 0] (Post k N rt ru ro) := by
  have hR' := hR
  obtain ⟨hr1, hr2, hr3, hr4, hr5, hr6, hr7, hr8, hr9⟩ := hR
  have hD : (rt = 7) = False ∧ (7 = rt) = False ∧ (ru = 7) = False ∧ (7 = ru) = False ∧ (ro = 7) = False ∧ (7 = ro) = False ∧ (rt = ru) = False ∧ (ru = rt) = False ∧ (rt = ro) = False ∧ (ro = rt) = False ∧ (ru = ro) = False ∧ (ro = ru) = False := by
    refine ⟨?_, ?_, ?_, ?_, ?_, ?_, ?_, ?_, ?_, ?_, ?_, ?_⟩ <;> exact eq_false (by omega)
  have hN : (∀ k, (rt = N + k) = False) ∧ (∀ k, (N + k = rt) = False) ∧ (∀ k, (ru = N + k) = False) ∧ (∀ k, (N + k = ru) = False) ∧ (∀ k, (ro = N + k) = False) ∧ (∀ k, (N + k = ro) = False) ∧ (∀ k, (7 = N + k) = False) ∧ (∀ k, (N + k = 7) = False) ∧ (∀ k, (N + k < N) = False) := by
    refine ⟨?_, ?_, ?_, ?_, ?_, ?_, ?_, ?_, ?_⟩ <;> exact fun k => eq_false (by omega)
  have hL : (∀ k, rt < N + k) ∧ (∀ k, ru < N + k) ∧ (∀ k, ro < N + k) ∧ (∀ k, 7 < N + k) := by
    refine ⟨?_, ?_, ?_, ?_⟩ <;> exact fun k => by omega
  have hB : rt < N ∧ ru < N ∧ ro < N ∧ 7 < N := by refine ⟨?_, ?_, ?_, ?_⟩ <;> omega
  have hun := h.n
  have hlen := h.len
  have hxs := h.nx
  have htl := h.tl
  have htk0 := h.tok0
  have htk1 := h.tok1
  have hnw0 := h.now0
  have hnw1 := h.now1
  have h13 := f13 m.xs m.tok hh m.now 5 (by omega)
  have hcases := poll_cases h hk
  generalize pollR .fro m.xs m.tok hh m.now 5 = A at h13 hcases
  unfold heapv boxv
  refine bcall_coded a25_ok (by simp) ?_
  repeat refine AW.seq ?_
  refine AW.reg ?_
  have hF := True.intro
  repeat (first | refine wD1 ?_ | refine wD2 ?_ | refine wE1 ?_ | refine wE2 ?_ | (refine wE3 ?_; intro _) | (refine wE4 ?_; intro _) | refine wN ?_ | ((with_reducible show evIs _ (_ :: _) _ _); first | refine wQ ?_ | refine wF ?_ | refine wG ?_ | refine wT ?_ | refine wM ?_ | refine wS ?_ | refine wP ?_ | refine wJ ?_ | refine wX ?_ | refine wY ?_))
  clear hF
  repeat refine evDone ?_
  try (show AW _ _ _ _ _)
  simp only [hh] at h13
  rcases hcases with hsh | ⟨j, i, x, tr, hx, ht, hil, hiu, hio2, hu0, hu1, hsh⟩
  · refine AW.cut (st' := mkS [(0, .ptr 7 0 0), (3, .ptr (N + 15) 0 0), (4, .ptr (N + 16) 0 0), (5, .bool false), (6, .int .i64 0)] [(7, ⟨6, true, [.agg [items m.xs, .int .i64 m.tok, .int .i64 m.now, .hdr rt 0 m.toks.length, .hdr ru 0 m.untl.length, .hdr ro 0 m.own.length]]⟩), (rt, ⟨1, false, ints m.toks⟩), (ru, ⟨1, false, ints m.untl⟩), (ro, ⟨1, false, ints m.own⟩), (N + 15, ⟨2, true, [.agg [items m.xs, .int .i64 m.tok]]⟩), (N + 16, ⟨13, true, [zItem]⟩)] (N + 20)) ?_ ?_
    · refine AW.draw ?_
      have hF := And.intro (hD) (hN)
      repeat (first | refine wD1 ?_ | refine wD2 ?_ | refine wE1 ?_ | refine wE2 ?_ | (refine wE3 ?_; intro _) | (refine wE4 ?_; intro _) | refine wN ?_ | ((with_reducible show evIs _ (_ :: _) _ _); first | refine wQ ?_ | refine wF ?_ | refine wG ?_ | refine wT ?_ | refine wM ?_ | refine wS ?_ | refine wP ?_ | refine wJ ?_ | refine wX ?_ | refine wY ?_))
      clear hF
      repeat refine evDone ?_
      try (show AW _ _ _ _ _)
      refine evThree ?_ ?_ ?_
      · have hF := And.intro (hD) (hN)
        repeat (first | refine wD1 ?_ | refine wD2 ?_ | refine wE1 ?_ | refine wE2 ?_ | (refine wE3 ?_; intro _) | (refine wE4 ?_; intro _) | refine wN ?_ | ((with_reducible show evIs _ (_ :: _) _ _); first | refine wQ ?_ | refine wF ?_ | refine wG ?_ | refine wT ?_ | refine wM ?_ | refine wS ?_ | refine wP ?_ | refine wJ ?_ | refine wX ?_ | refine wY ?_))
        clear hF
        repeat refine evDone ?_
        try (show AW _ _ _ _ _)
        have hF := And.intro (hsh) (And.intro (hD) (hN))
        refine wC (hA := h13) ?_
        clear hF
        have hF := And.intro (hD) (hN)
        repeat (first | refine wD1 ?_ | refine wD2 ?_ | refine wE1 ?_ | refine wE2 ?_ | (refine wE3 ?_; intro _) | (refine wE4 ?_; intro _) | refine wN ?_ | ((with_reducible show evIs _ (_ :: _) _ _); first | refine wQ ?_ | refine wF ?_ | refine wG ?_ | refine wT ?_ | refine wM ?_ | refine wS ?_ | refine wP ?_ | refine wJ ?_ | refine wX ?_ | refine wY ?_))
        clear hF
        repeat refine evDone ?_
        try (show AW _ _ _ _ _)
        refine evTwo ?_ ?_
        · have hF := And.intro (hD) (hN)
          repeat (first | refine wD1 ?_ | refine wD2 ?_ | refine wE1 ?_ | refine wE2 ?_ | (refine wE3 ?_; intro _) | (refine wE4 ?_; intro _) | refine wN ?_ | ((with_reducible show evIs _ (_ :: _) _ _); first | refine wQ ?_ | refine wF ?_ | refine wG ?_ | refine wT ?_ | refine wM ?_ | refine wS ?_ | refine wP ?_ | refine wJ ?_ | refine wX ?_ | refine wY ?_))
          clear hF
          repeat refine evDone ?_
          try (show AW _ _ _ _ _)
          refine ⟨rfl, ?_⟩
          refine Fit.mk _ _ _ (by simp [hD, hN, hL, conv2, newEmp, convs_refl, convs, conv]) (by simp [hD, hN, hL, heapFit, newEmp, conv2s, conv2, convs_refl, convs, conv]) (by intro q hq; first | (simp at hq; done) | (simp at hq; omega) | (simp at hq; simp; omega))
        · have hF := And.intro (hD) (hN)
          repeat (first | refine wD1 ?_ | refine wD2 ?_ | refine wE1 ?_ | refine wE2 ?_ | (refine wE3 ?_; intro _) | (refine wE4 ?_; intro _) | refine wN ?_ | ((with_reducible show evIs _ (_ :: _) _ _); first | refine wQ ?_ | refine wF ?_ | refine wG ?_ | refine wT ?_ | refine wM ?_ | refine wS ?_ | refine wP ?_ | refine wJ ?_ | refine wX ?_ | refine wY ?_))
          clear hF
          repeat refine evDone ?_
          try (show AW _ _ _ _ _)
          refine ⟨rfl, ?_⟩
          refine Fit.mk _ _ _ (by simp [hD, hN, hL, conv2, newEmp, convs_refl, convs, conv]) (by simp [hD, hN, hL, heapFit, newEmp, conv2s, conv2, convs_refl, convs, conv]) (by intro q hq; first | (simp at hq; done) | (simp at hq; omega) | (simp at hq; simp; omega))
      · have hF := And.intro (hD) (hN)
        repeat (first | refine wD1 ?_ | refine wD2 ?_ | refine wE1 ?_ | refine wE2 ?_ | (refine wE3 ?_; intro _) | (refine wE4 ?_; intro _) | refine wN ?_ | ((with_reducible show evIs _ (_ :: _) _ _); first | refine wQ ?_ | refine wF ?_ | refine wG ?_ | refine wT ?_ | refine wM ?_ | refine wS ?_ | refine wP ?_ | refine wJ ?_ | refine wX ?_ | refine wY ?_))
        clear hF
        repeat refine evDone ?_
        try (show AW _ _ _ _ _)
        refine evTwo ?_ ?_
        · have hF := And.intro (hD) (hN)
          repeat (first | refine wD1 ?_ | refine wD2 ?_ | refine wE1 ?_ | refine wE2 ?_ | (refine wE3 ?_; intro _) | (refine wE4 ?_; intro _) | refine wN ?_ | ((with_reducible show evIs _ (_ :: _) _ _); first | refine wQ ?_ | refine wF ?_ | refine wG ?_ | refine wT ?_ | refine wM ?_ | refine wS ?_ | refine wP ?_ | refine wJ ?_ | refine wX ?_ | refine wY ?_))
          clear hF
          repeat refine evDone ?_
          try (show AW _ _ _ _ _)
          have hF := And.intro (hsh) (And.intro (hD) (hN))
          refine wC (hA := h13) ?_
          clear hF
          have hF := And.intro (hD) (hN)
          repeat (first | refine wD1 ?_ | refine wD2 ?_ | refine wE1 ?_ | refine wE2 ?_ | (refine wE3 ?_; intro _) | (refine wE4 ?_; intro _) | refine wN ?_ | ((with_reducible show evIs _ (_ :: _) _ _); first | refine wQ ?_ | refine wF ?_ | refine wG ?_ | refine wT ?_ | refine wM ?_ | refine wS ?_ | refine wP ?_ | refine wJ ?_ | refine wX ?_ | refine wY ?_))
          clear hF
          repeat refine evDone ?_
          try (show AW _ _ _ _ _)
          refine ⟨rfl, ?_⟩
          refine Fit.mk _ _ _ (by simp [hD, hN, hL, conv2, newEmp, convs_refl, convs, conv]) (by simp [hD, hN, hL, heapFit, newEmp, conv2s, conv2, convs_refl, convs, conv]) (by intro q hq; first | (simp at hq; done) | (simp at hq; omega) | (simp at hq; simp; omega))
        · have hF := And.intro (hD) (hN)
          repeat (first | refine wD1 ?_ | refine wD2 ?_ | refine wE1 ?_ | refine wE2 ?_ | (refine wE3 ?_; intro _) | (refine wE4 ?_; intro _) | refine wN ?_ | ((with_reducible show evIs _ (_ :: _) _ _); first | refine wQ ?_ | refine wF ?_ | refine wG ?_ | refine wT ?_ | refine wM ?_ | refine wS ?_ | refine wP ?_ | refine wJ ?_ | refine wX ?_ | refine wY ?_))
          clear hF
          repeat refine evDone ?_
          try (show AW _ _ _ _ _)
          have hF := And.intro (hsh) (And.intro (hD) (hN))
          refine wC (hA := h13) ?_
          clear hF
          have hF := And.intro (hD) (hN)
          repeat (first | refine wD1 ?_ | refine wD2 ?_ | refine wE1 ?_ | refine wE2 ?_ | (refine wE3 ?_; intro _) | (refine wE4 ?_; intro _) | refine wN ?_ | ((with_reducible show evIs _ (_ :: _) _ _); first | refine wQ ?_ | refine wF ?_ | refine wG ?_ | refine wT ?_ | refine wM ?_ | refine wS ?_ | refine wP ?_ | refine wJ ?_ | refine wX ?_ | refine wY ?_))
          clear hF
          repeat refine evDone ?_
          try (show AW _ _ _ _ _)
          refine ⟨rfl, ?_⟩
          refine Fit.mk _ _ _ (by simp [hD, hN, hL, conv2, newEmp, convs_refl, convs, conv]) (by simp [hD, hN, hL, heapFit, newEmp, conv2s, conv2, convs_refl, convs, conv]) (by intro q hq; first | (simp at hq; done) | (simp at hq; omega) | (simp at hq; simp; omega))
      · have hF := And.intro (hD) (hN)
        repeat (first | refine wD1 ?_ | refine wD2 ?_ | refine wE1 ?_ | refine wE2 ?_ | (refine wE3 ?_; intro _) | (refine wE4 ?_; intro _) | refine wN ?_ | ((with_reducible show evIs _ (_ :: _) _ _); first | refine wQ ?_ | refine wF ?_ | refine wG ?_ | refine wT ?_ | refine wM ?_ | refine wS ?_ | refine wP ?_ | refine wJ ?_ | refine wX ?_ | refine wY ?_))
        clear hF
        repeat refine evDone ?_
        try (show AW _ _ _ _ _)
        refine evTwo ?_ ?_
        · have hF := And.intro (hD) (hN)
          repeat (first | refine wD1 ?_ | refine wD2 ?_ | refine wE1 ?_ | refine wE2 ?_ | (refine wE3 ?_; intro _) | (refine wE4 ?_; intro _) | refine wN ?_ | ((with_reducible show evIs _ (_ :: _) _ _); first | refine wQ ?_ | refine wF ?_ | refine wG ?_ | refine wT ?_ | refine wM ?_ | refine wS ?_ | refine wP ?_ | refine wJ ?_ | refine wX ?_ | refine wY ?_))
          clear hF
          repeat refine evDone ?_
          try (show AW _ _ _ _ _)
          have hF := And.intro (hsh) (And.intro (hD) (hN))
          refine wC (hA := h13) ?_
          clear hF
          have hF := And.intro (hD) (hN)
          repeat (first | refine wD1 ?_ | refine wD2 ?_ | refine wE1 ?_ | refine wE2 ?_ | (refine wE3 ?_; intro _) | (refine wE4 ?_; intro _) | refine wN ?_ | ((with_reducible show evIs _ (_ :: _) _ _); first | refine wQ ?_ | refine wF ?_ | refine wG ?_ | refine wT ?_ | refine wM ?_ | refine wS ?_ | refine wP ?_ | refine wJ ?_ | refine wX ?_ | refine wY ?_))
          clear hF
          repeat refine evDone ?_
          try (show AW _ _ _ _ _)
          refine ⟨rfl, ?_⟩
          refine Fit.mk _ _ _ (by simp [hD, hN, hL, conv2, newEmp, convs_refl, convs, conv]) (by simp [hD, hN, hL, heapFit, newEmp, conv2s, conv2, convs_refl, convs, conv]) (by intro q hq; first | (simp at hq; done) | (simp at hq; omega) | (simp at hq; simp; omega))
        · have hF := And.intro (hD) (hN)
          repeat (first | refine wD1 ?_ | refine wD2 ?_ | refine wE1 ?_ | refine wE2 ?_ | (refine wE3 ?_; intro _) | (refine wE4 ?_; intro _) | refine wN ?_ | ((with_reducible show evIs _ (_ :: _) _ _); first | refine wQ ?_ | refine wF ?_ | refine wG ?_ | refine wT ?_ | refine wM ?_ | refine wS ?_ | refine wP ?_ | refine wJ ?_ | refine wX ?_ | refine wY ?_))
          clear hF
          repeat refine evDone ?_
          try (show AW _ _ _ _ _)
          have hF := And.intro (hsh) (And.intro (hD) (hN))
          refine wC (hA := h13) ?_
          clear hF
          have hF := And.intro (hD) (hN)
          repeat (first | refine wD1 ?_ | refine wD2 ?_ | refine wE1 ?_ | refine wE2 ?_ | (refine wE3 ?_; intro _) | (refine wE4 ?_; intro _) | refine wN ?_ | ((with_reducible show evIs _ (_ :: _) _ _); first | refine wQ ?_ | refine wF ?_ | refine wG ?_ | refine wT ?_ | refine wM ?_ | refine wS ?_ | refine wP ?_ | refine wJ ?_ | refine wX ?_ | refine wY ?_))
          clear hF
          repeat refine evDone ?_
          try (show AW _ _ _ _ _)
          refine ⟨rfl, ?_⟩
          refine Fit.mk _ _ _ (by simp [hD, hN, hL, conv2, newEmp, convs_refl, convs, conv]) (by simp [hD, hN, hL, heapFit, newEmp, conv2s, conv2, convs_refl, convs, conv]) (by intro q hq; first | (simp at hq; done) | (simp at hq; omega) | (simp at hq; simp; omega))
    repeat refine AW.seq ?_
    refine AW.reg ?_
    have hF := True.intro
    repeat (first | refine wD1 ?_ | refine wD2 ?_ | refine wE1 ?_ | refine wE2 ?_ | (refine wE3 ?_; intro _) | (refine wE4 ?_; intro _) | refine wN ?_ | ((with_reducible show evIs _ (_ :: _) _ _); first | refine wQ ?_ | refine wF ?_ | refine wG ?_ | refine wT ?_ | refine wM ?_ | refine wS ?_ | refine wP ?_ | refine wJ ?_ | refine wX ?_ | refine wY ?_))
    clear hF
    repeat refine evDone ?_
    try (show AW _ _ _ _ _)
    repeat refine AW.seq ?_
    refine AW.condF (by simp []) (by simp []) ?_
    refine AW.skip ?_
    show AW _ _ _ _ _
    repeat refine AW.seq ?_
    refine AW.reg ?_
    have hF := And.intro (hD) (hN)
    repeat (first | refine wD1 ?_ | refine wD2 ?_ | refine wE1 ?_ | refine wE2 ?_ | (refine wE3 ?_; intro _) | (refine wE4 ?_; intro _) | refine wN ?_ | ((with_reducible show evIs _ (_ :: _) _ _); first | refine wQ ?_ | refine wF ?_ | refine wG ?_ | refine wT ?_ | refine wM ?_ | refine wS ?_ | refine wP ?_ | refine wJ ?_ | refine wX ?_ | refine wY ?_))
    clear hF
    repeat refine evDone ?_
    try (show AW _ _ _ _ _)
    repeat refine AW.seq ?_
    refine AW.reg ?_
    have hF := True.intro
    repeat (first | refine wD1 ?_ | refine wD2 ?_ | refine wE1 ?_ | refine wE2 ?_ | (refine wE3 ?_; intro _) | (refine wE4 ?_; intro _) | refine wN ?_ | ((with_reducible show evIs _ (_ :: _) _ _); first | refine wQ ?_ | refine wF ?_ | refine wG ?_ | refine wT ?_ | refine wM ?_ | refine wS ?_ | refine wP ?_ | refine wJ ?_ | refine wX ?_ | refine wY ?_))
    clear hF
    repeat refine evDone ?_
    try (show AW _ _ _ _ _)
    repeat refine AW.seq ?_
    refine AW.condT (by simp []) (by simp []) ?_
    repeat refine AW.seq ?_
    refine AW.reg ?_
    have hF := True.intro
    repeat (first | refine wD1 ?_ | refine wD2 ?_ | refine wE1 ?_ | refine wE2 ?_ | (refine wE3 ?_; intro _) | (refine wE4 ?_; intro _) | refine wN ?_ | ((with_reducible show evIs _ (_ :: _) _ _); first | refine wQ ?_ | refine wF ?_ | refine wG ?_ | refine wT ?_ | refine wM ?_ | refine wS ?_ | refine wP ?_ | refine wJ ?_ | refine wX ?_ | refine wY ?_))
    clear hF
    repeat refine evDone ?_
    try (show AW _ _ _ _ _)
    refine AW.ret ⟨by simp [resP, a25_res, ARes.op], heapv (m) (rt) (ru) (ro), N + 200, [.bool true], ⟨m, rt, ru, ro, h', by unfold Roots; omega, rfl, rfl, rfl⟩, by omega, ?_, rfl, by simp, ?_⟩
    · intro p hp
      by_cases hpN : N ≤ p.1
      · exact .inr hpN
      · simp [heapv] at hp
        rcases hp with rfl | rfl | rfl | rfl <;> first | (left; simp [hD]; done) | (exfalso; simp at hpN; omega)
    simp only [resV, a25_res, List.map_cons, List.map_nil, ARes.op, heapv, boxv]
    refine Fit.mk _ _ _ (by simp [hD, hN, hL, conv2, newEmp, convs_refl, convs, conv]) (by simp [hD, hN, hL, heapFit, newEmp, conv2s, conv2, convs_refl, convs, conv]) (by intro q hq; first | (simp at hq; done) | (simp at hq; omega) | (simp at hq; simp; omega))
  · have hI := h.poll hk hx ht
    have hwi : IntKind.i64.wrap (i : Int) = (i : Int) := i64w (by omega) (by omega)
    have hw5 : IntKind.i64.wrap (m.now + 5) = m.now + 5 := i64w (by omega) (by omega)
    have hi0 : ¬ (i : Int) < 0 := by omega
    have hi1 : ¬ (m.untl.length : Int) ≤ i := by omega
    have hi2 : (0 : Int) ≤ i := by omega
    have hi3 : (i : Int) < m.untl.length := by omega
    have hio : i < m.own.length := by omega
    have hi5 : (i : Int) < m.own.length := by omega
    have hu2 : ¬ x.til < 0 := by omega
    have hu3 : ¬ m.now < x.til := by omega
    have hei := ints_at hiu
    have heo := ints_at hio2
    refine AW.cut (st' := mkS [(0, .ptr 7 0 0), (3, .ptr (N + 15) 0 0), (4, .ptr (N + 16) 0 0), (5, .bool true), (6, .int .i64 0)] [(7, ⟨6, true, [.agg [items m.xs, .int .i64 m.tok, .int .i64 m.now, .hdr rt 0 m.toks.length, .hdr ru 0 m.untl.length, .hdr ro 0 m.own.length]]⟩), (rt, ⟨1, false, ints m.toks⟩), (ru, ⟨1, false, ints m.untl⟩), (ro, ⟨1, false, ints m.own⟩), (N + 15, ⟨2, true, [.agg [items (m.poll j i x).xs, .int .i64 (m.tok + 1)]]⟩), (N + 16, ⟨13, true, [.agg [.int .i64 (i + 1), .int .i64 1, .int .i64 0, .int .i64 0, .int .i64 0, .int .i64 0, .str ⟨#[119]⟩, .str ⟨#[114, 49]⟩, .str ⟨#[]⟩, .str hh, .int .i64 (m.tok + 1), .int .i64 (m.now + 5), .int .i64 tr]]⟩)] (N + 20)) ?_ ?_
    · refine AW.draw ?_
      have hF := And.intro (hD) (hN)
      repeat (first | refine wD1 ?_ | refine wD2 ?_ | refine wE1 ?_ | refine wE2 ?_ | (refine wE3 ?_; intro _) | (refine wE4 ?_; intro _) | refine wN ?_ | ((with_reducible show evIs _ (_ :: _) _ _); first | refine wQ ?_ | refine wF ?_ | refine wG ?_ | refine wT ?_ | refine wM ?_ | refine wS ?_ | refine wP ?_ | refine wJ ?_ | refine wX ?_ | refine wY ?_))
      clear hF
      repeat refine evDone ?_
      try (show AW _ _ _ _ _)
      refine evThree ?_ ?_ ?_
      · have hF := And.intro (hD) (hN)
        repeat (first | refine wD1 ?_ | refine wD2 ?_ | refine wE1 ?_ | refine wE2 ?_ | (refine wE3 ?_; intro _) | (refine wE4 ?_; intro _) | refine wN ?_ | ((with_reducible show evIs _ (_ :: _) _ _); first | refine wQ ?_ | refine wF ?_ | refine wG ?_ | refine wT ?_ | refine wM ?_ | refine wS ?_ | refine wP ?_ | refine wJ ?_ | refine wX ?_ | refine wY ?_))
        clear hF
        repeat refine evDone ?_
        try (show AW _ _ _ _ _)
        have hF := And.intro (hsh) (And.intro (hD) (hN))
        refine wC (hA := h13) ?_
        clear hF
        have hF := And.intro (hD) (hN)
        repeat (first | refine wD1 ?_ | refine wD2 ?_ | refine wE1 ?_ | refine wE2 ?_ | (refine wE3 ?_; intro _) | (refine wE4 ?_; intro _) | refine wN ?_ | ((with_reducible show evIs _ (_ :: _) _ _); first | refine wQ ?_ | refine wF ?_ | refine wG ?_ | refine wT ?_ | refine wM ?_ | refine wS ?_ | refine wP ?_ | refine wJ ?_ | refine wX ?_ | refine wY ?_))
        clear hF
        repeat refine evDone ?_
        try (show AW _ _ _ _ _)
        refine evTwo ?_ ?_
        · have hF := And.intro (hD) (hN)
          repeat (first | refine wD1 ?_ | refine wD2 ?_ | refine wE1 ?_ | refine wE2 ?_ | (refine wE3 ?_; intro _) | (refine wE4 ?_; intro _) | refine wN ?_ | ((with_reducible show evIs _ (_ :: _) _ _); first | refine wQ ?_ | refine wF ?_ | refine wG ?_ | refine wT ?_ | refine wM ?_ | refine wS ?_ | refine wP ?_ | refine wJ ?_ | refine wX ?_ | refine wY ?_))
          clear hF
          repeat refine evDone ?_
          try (show AW _ _ _ _ _)
          refine ⟨rfl, ?_⟩
          refine Fit.mk _ _ _ (by simp [hD, hN, hL, conv2, newEmp, convs_refl, convs, conv]) (by simp [hD, hN, hL, heapFit, newEmp, conv2s, conv2, convs_refl, convs, conv]) (by intro q hq; first | (simp at hq; done) | (simp at hq; omega) | (simp at hq; simp; omega))
        · have hF := And.intro (hD) (hN)
          repeat (first | refine wD1 ?_ | refine wD2 ?_ | refine wE1 ?_ | refine wE2 ?_ | (refine wE3 ?_; intro _) | (refine wE4 ?_; intro _) | refine wN ?_ | ((with_reducible show evIs _ (_ :: _) _ _); first | refine wQ ?_ | refine wF ?_ | refine wG ?_ | refine wT ?_ | refine wM ?_ | refine wS ?_ | refine wP ?_ | refine wJ ?_ | refine wX ?_ | refine wY ?_))
          clear hF
          repeat refine evDone ?_
          try (show AW _ _ _ _ _)
          refine ⟨rfl, ?_⟩
          refine Fit.mk _ _ _ (by simp [hD, hN, hL, conv2, newEmp, convs_refl, convs, conv]) (by simp [hD, hN, hL, heapFit, newEmp, conv2s, conv2, convs_refl, convs, conv]) (by intro q hq; first | (simp at hq; done) | (simp at hq; omega) | (simp at hq; simp; omega))
      · have hF := And.intro (hD) (hN)
        repeat (first | refine wD1 ?_ | refine wD2 ?_ | refine wE1 ?_ | refine wE2 ?_ | (refine wE3 ?_; intro _) | (refine wE4 ?_; intro _) | refine wN ?_ | ((with_reducible show evIs _ (_ :: _) _ _); first | refine wQ ?_ | refine wF ?_ | refine wG ?_ | refine wT ?_ | refine wM ?_ | refine wS ?_ | refine wP ?_ | refine wJ ?_ | refine wX ?_ | refine wY ?_))
        clear hF
        repeat refine evDone ?_
        try (show AW _ _ _ _ _)
        refine evTwo ?_ ?_
        · have hF := And.intro (hD) (hN)
          repeat (first | refine wD1 ?_ | refine wD2 ?_ | refine wE1 ?_ | refine wE2 ?_ | (refine wE3 ?_; intro _) | (refine wE4 ?_; intro _) | refine wN ?_ | ((with_reducible show evIs _ (_ :: _) _ _); first | refine wQ ?_ | refine wF ?_ | refine wG ?_ | refine wT ?_ | refine wM ?_ | refine wS ?_ | refine wP ?_ | refine wJ ?_ | refine wX ?_ | refine wY ?_))
          clear hF
          repeat refine evDone ?_
          try (show AW _ _ _ _ _)
          have hF := And.intro (hsh) (And.intro (hD) (hN))
          refine wC (hA := h13) ?_
          clear hF
          have hF := And.intro (hD) (hN)
          repeat (first | refine wD1 ?_ | refine wD2 ?_ | refine wE1 ?_ | refine wE2 ?_ | (refine wE3 ?_; intro _) | (refine wE4 ?_; intro _) | refine wN ?_ | ((with_reducible show evIs _ (_ :: _) _ _); first | refine wQ ?_ | refine wF ?_ | refine wG ?_ | refine wT ?_ | refine wM ?_ | refine wS ?_ | refine wP ?_ | refine wJ ?_ | refine wX ?_ | refine wY ?_))
          clear hF
          repeat refine evDone ?_
          try (show AW _ _ _ _ _)
          refine ⟨rfl, ?_⟩
          refine Fit.mk _ _ _ (by simp [hD, hN, hL, conv2, newEmp, convs_refl, convs, conv]) (by simp [hD, hN, hL, heapFit, newEmp, conv2s, conv2, convs_refl, convs, conv]) (by intro q hq; first | (simp at hq; done) | (simp at hq; omega) | (simp at hq; simp; omega))
        · have hF := And.intro (hD) (hN)
          repeat (first | refine wD1 ?_ | refine wD2 ?_ | refine wE1 ?_ | refine wE2 ?_ | (refine wE3 ?_; intro _) | (refine wE4 ?_; intro _) | refine wN ?_ | ((with_reducible show evIs _ (_ :: _) _ _); first | refine wQ ?_ | refine wF ?_ | refine wG ?_ | refine wT ?_ | refine wM ?_ | refine wS ?_ | refine wP ?_ | refine wJ ?_ | refine wX ?_ | refine wY ?_))
          clear hF
          repeat refine evDone ?_
          try (show AW _ _ _ _ _)
          have hF := And.intro (hsh) (And.intro (hD) (hN))
          refine wC (hA := h13) ?_
          clear hF
          have hF := And.intro (hD) (hN)
          repeat (first | refine wD1 ?_ | refine wD2 ?_ | refine wE1 ?_ | refine wE2 ?_ | (refine wE3 ?_; intro _) | (refine wE4 ?_; intro _) | refine wN ?_ | ((with_reducible show evIs _ (_ :: _) _ _); first | refine wQ ?_ | refine wF ?_ | refine wG ?_ | refine wT ?_ | refine wM ?_ | refine wS ?_ | refine wP ?_ | refine wJ ?_ | refine wX ?_ | refine wY ?_))
          clear hF
          repeat refine evDone ?_
          try (show AW _ _ _ _ _)
          refine ⟨rfl, ?_⟩
          refine Fit.mk _ _ _ (by simp [hD, hN, hL, conv2, newEmp, convs_refl, convs, conv]) (by simp [hD, hN, hL, heapFit, newEmp, conv2s, conv2, convs_refl, convs, conv]) (by intro q hq; first | (simp at hq; done) | (simp at hq; omega) | (simp at hq; simp; omega))
      · have hF := And.intro (hD) (hN)
        repeat (first | refine wD1 ?_ | refine wD2 ?_ | refine wE1 ?_ | refine wE2 ?_ | (refine wE3 ?_; intro _) | (refine wE4 ?_; intro _) | refine wN ?_ | ((with_reducible show evIs _ (_ :: _) _ _); first | refine wQ ?_ | refine wF ?_ | refine wG ?_ | refine wT ?_ | refine wM ?_ | refine wS ?_ | refine wP ?_ | refine wJ ?_ | refine wX ?_ | refine wY ?_))
        clear hF
        repeat refine evDone ?_
        try (show AW _ _ _ _ _)
        refine evTwo ?_ ?_
        · have hF := And.intro (hD) (hN)
          repeat (first | refine wD1 ?_ | refine wD2 ?_ | refine wE1 ?_ | refine wE2 ?_ | (refine wE3 ?_; intro _) | (refine wE4 ?_; intro _) | refine wN ?_ | ((with_reducible show evIs _ (_ :: _) _ _); first | refine wQ ?_ | refine wF ?_ | refine wG ?_ | refine wT ?_ | refine wM ?_ | refine wS ?_ | refine wP ?_ | refine wJ ?_ | refine wX ?_ | refine wY ?_))
          clear hF
          repeat refine evDone ?_
          try (show AW _ _ _ _ _)
          have hF := And.intro (hsh) (And.intro (hD) (hN))
          refine wC (hA := h13) ?_
          clear hF
          have hF := And.intro (hD) (hN)
          repeat (first | refine wD1 ?_ | refine wD2 ?_ | refine wE1 ?_ | refine wE2 ?_ | (refine wE3 ?_; intro _) | (refine wE4 ?_; intro _) | refine wN ?_ | ((with_reducible show evIs _ (_ :: _) _ _); first | refine wQ ?_ | refine wF ?_ | refine wG ?_ | refine wT ?_ | refine wM ?_ | refine wS ?_ | refine wP ?_ | refine wJ ?_ | refine wX ?_ | refine wY ?_))
          clear hF
          repeat refine evDone ?_
          try (show AW _ _ _ _ _)
          refine ⟨rfl, ?_⟩
          refine Fit.mk _ _ _ (by simp [hD, hN, hL, conv2, newEmp, convs_refl, convs, conv]) (by simp [hD, hN, hL, heapFit, newEmp, conv2s, conv2, convs_refl, convs, conv]) (by intro q hq; first | (simp at hq; done) | (simp at hq; omega) | (simp at hq; simp; omega))
        · have hF := And.intro (hD) (hN)
          repeat (first | refine wD1 ?_ | refine wD2 ?_ | refine wE1 ?_ | refine wE2 ?_ | (refine wE3 ?_; intro _) | (refine wE4 ?_; intro _) | refine wN ?_ | ((with_reducible show evIs _ (_ :: _) _ _); first | refine wQ ?_ | refine wF ?_ | refine wG ?_ | refine wT ?_ | refine wM ?_ | refine wS ?_ | refine wP ?_ | refine wJ ?_ | refine wX ?_ | refine wY ?_))
          clear hF
          repeat refine evDone ?_
          try (show AW _ _ _ _ _)
          have hF := And.intro (hsh) (And.intro (hD) (hN))
          refine wC (hA := h13) ?_
          clear hF
          have hF := And.intro (hD) (hN)
          repeat (first | refine wD1 ?_ | refine wD2 ?_ | refine wE1 ?_ | refine wE2 ?_ | (refine wE3 ?_; intro _) | (refine wE4 ?_; intro _) | refine wN ?_ | ((with_reducible show evIs _ (_ :: _) _ _); first | refine wQ ?_ | refine wF ?_ | refine wG ?_ | refine wT ?_ | refine wM ?_ | refine wS ?_ | refine wP ?_ | refine wJ ?_ | refine wX ?_ | refine wY ?_))
          clear hF
          repeat refine evDone ?_
          try (show AW _ _ _ _ _)
          refine ⟨rfl, ?_⟩
          refine Fit.mk _ _ _ (by simp [hD, hN, hL, conv2, newEmp, convs_refl, convs, conv]) (by simp [hD, hN, hL, heapFit, newEmp, conv2s, conv2, convs_refl, convs, conv]) (by intro q hq; first | (simp at hq; done) | (simp at hq; omega) | (simp at hq; simp; omega))
    repeat refine AW.seq ?_
    refine AW.reg ?_
    have hF := True.intro
    repeat (first | refine wD1 ?_ | refine wD2 ?_ | refine wE1 ?_ | refine wE2 ?_ | (refine wE3 ?_; intro _) | (refine wE4 ?_; intro _) | refine wN ?_ | ((with_reducible show evIs _ (_ :: _) _ _); first | refine wQ ?_ | refine wF ?_ | refine wG ?_ | refine wT ?_ | refine wM ?_ | refine wS ?_ | refine wP ?_ | refine wJ ?_ | refine wX ?_ | refine wY ?_))
    clear hF
    repeat refine evDone ?_
    try (show AW _ _ _ _ _)
    repeat refine AW.seq ?_
    refine AW.condF (by simp []) (by simp []) ?_
    refine AW.skip ?_
    show AW _ _ _ _ _
    repeat refine AW.seq ?_
    refine AW.reg ?_
    have hF := And.intro (hD) (hN)
    repeat (first | refine wD1 ?_ | refine wD2 ?_ | refine wE1 ?_ | refine wE2 ?_ | (refine wE3 ?_; intro _) | (refine wE4 ?_; intro _) | refine wN ?_ | ((with_reducible show evIs _ (_ :: _) _ _); first | refine wQ ?_ | refine wF ?_ | refine wG ?_ | refine wT ?_ | refine wM ?_ | refine wS ?_ | refine wP ?_ | refine wJ ?_ | refine wX ?_ | refine wY ?_))
    clear hF
    repeat refine evDone ?_
    try (show AW _ _ _ _ _)
    repeat refine AW.seq ?_
    refine AW.reg ?_
    have hF := True.intro
    repeat (first | refine wD1 ?_ | refine wD2 ?_ | refine wE1 ?_ | refine wE2 ?_ | (refine wE3 ?_; intro _) | (refine wE4 ?_; intro _) | refine wN ?_ | ((with_reducible show evIs _ (_ :: _) _ _); first | refine wQ ?_ | refine wF ?_ | refine wG ?_ | refine wT ?_ | refine wM ?_ | refine wS ?_ | refine wP ?_ | refine wJ ?_ | refine wX ?_ | refine wY ?_))
    clear hF
    repeat refine evDone ?_
    try (show AW _ _ _ _ _)
    repeat refine AW.seq ?_
    refine AW.condF (by simp []) (by simp []) ?_
    refine AW.skip ?_
    show AW _ _ _ _ _
    repeat refine AW.seq ?_
    refine AW.reg ?_
    have hF := And.intro (hD) (And.intro (hN) (hwi))
    repeat (first | refine wD1 ?_ | refine wD2 ?_ | refine wE1 ?_ | refine wE2 ?_ | (refine wE3 ?_; intro _) | (refine wE4 ?_; intro _) | refine wN ?_ | ((with_reducible show evIs _ (_ :: _) _ _); first | refine wQ ?_ | refine wF ?_ | refine wG ?_ | refine wT ?_ | refine wM ?_ | refine wS ?_ | refine wP ?_ | refine wJ ?_ | refine wX ?_ | refine wY ?_))
    clear hF
    repeat refine evDone ?_
    try (show AW _ _ _ _ _)
    repeat refine AW.seq ?_
    refine AW.draw ?_
    have hF := And.intro (hD) (And.intro (hN) (And.intro (hi0) (And.intro (hi1) (And.intro (hi2) (And.intro (hi3) (And.intro (hil) (And.intro (hei) (And.intro (hu2) (hu3)))))))))
    repeat (first | refine wD1 ?_ | refine wD2 ?_ | refine wE1 ?_ | refine wE2 ?_ | (refine wE3 ?_; intro _) | (refine wE4 ?_; intro _) | refine wN ?_ | ((with_reducible show evIs _ (_ :: _) _ _); first | refine wQ ?_ | refine wF ?_ | refine wG ?_ | refine wT ?_ | refine wM ?_ | refine wS ?_ | refine wP ?_ | refine wJ ?_ | refine wX ?_ | refine wY ?_))
    clear hF
    repeat refine evDone ?_
    try (show AW _ _ _ _ _)
    repeat refine AW.seq ?_
    refine AW.condF (by simp []) (by simp []) ?_
    refine AW.skip ?_
    show AW _ _ _ _ _
    repeat refine AW.seq ?_
    refine AW.reg ?_
    have hF := And.intro (hD) (hN)
    repeat (first | refine wD1 ?_ | refine wD2 ?_ | refine wE1 ?_ | refine wE2 ?_ | (refine wE3 ?_; intro _) | (refine wE4 ?_; intro _) | refine wN ?_ | ((with_reducible show evIs _ (_ :: _) _ _); first | refine wQ ?_ | refine wF ?_ | refine wG ?_ | refine wT ?_ | refine wM ?_ | refine wS ?_ | refine wP ?_ | refine wJ ?_ | refine wX ?_ | refine wY ?_))
    clear hF
    repeat refine evDone ?_
    try (show AW _ _ _ _ _)
    obtain ⟨P, hP⟩ : ∃ P, P = N + 16 := ⟨_, rfl⟩
    obtain ⟨M, hM⟩ : ∃ M, M = N + 20 := ⟨_, rfl⟩
    have hPD : (P = 7) = False ∧ (7 = P) = False ∧ (P = rt) = False ∧ (rt = P) = False ∧ (P = ru) = False ∧ (ru = P) = False ∧ (P = ro) = False ∧ (ro = P) = False := by
      refine ⟨?_, ?_, ?_, ?_, ?_, ?_, ?_, ?_⟩ <;> exact eq_false (by omega)
    have hPM : (∀ k, (P = M + k) = False) ∧ (∀ k, (M + k = P) = False) := ⟨fun k => eq_false (by omega), fun k => eq_false (by omega)⟩
    have hM1 : M + 98 < N + 200 ∧ P < M ∧ M < N + 102 := by omega
    have hN2 : (∀ k, (rt = M + k) = False) ∧ (∀ k, (M + k = rt) = False) ∧ (∀ k, (ru = M + k) = False) ∧ (∀ k, (M + k = ru) = False) ∧ (∀ k, (ro = M + k) = False) ∧ (∀ k, (M + k = ro) = False) ∧ (∀ k, (7 = M + k) = False) ∧ (∀ k, (M + k = 7) = False) ∧ (∀ k, (M + k < M) = False) := by
      refine ⟨?_, ?_, ?_, ?_, ?_, ?_, ?_, ?_, ?_⟩ <;> exact fun k => eq_false (by omega)
    have hL2 : (∀ k, rt < M + k) ∧ (∀ k, ru < M + k) ∧ (∀ k, ro < M + k) ∧ (∀ k, 7 < M + k) := by
      refine ⟨?_, ?_, ?_, ?_⟩ <;> exact fun k => by omega
    have hB2 : rt < M ∧ ru < M ∧ ro < M ∧ 7 < M := by refine ⟨?_, ?_, ?_, ?_⟩ <;> omega
    repeat refine AW.seq ?_
    refine AW.block ?_
    refine AW.loop (fun g : Nat => g ≤ m.toks.length) (fun g => mkS [(0, .ptr 7 0 0), (4, .ptr P 0 0), (7, .int .i64 i), (74, .hdr rt 0 m.toks.length), (75, .int .i64 m.toks.length), (76, .int .i64 g)] [(7, ⟨6, true, [.agg [items (m.poll j i x).xs, .int .i64 (m.tok + 1), .int .i64 m.now, .hdr rt 0 m.toks.length, .hdr ru 0 m.untl.length, .hdr ro 0 m.own.length]]⟩), (rt, ⟨1, false, ints m.toks⟩), (ru, ⟨1, false, ints m.untl⟩), (ro, ⟨1, false, ints m.own⟩), (P, ⟨13, true, [.agg [.int .i64 (i + 1), .int .i64 1, .int .i64 0, .int .i64 0, .int .i64 0, .int .i64 0, .str ⟨#[119]⟩, .str ⟨#[114, 49]⟩, .str ⟨#[]⟩, .str hh, .int .i64 (m.tok + 1), .int .i64 (m.now + 5), .int .i64 tr]]⟩)] M) (fun g => m.toks.length - g) 0 (by simp) ?_ ?_
    · subst hP
      subst hM
      refine Fit.mk _ _ _ (by simp [hD, hN, hL, conv2, newEmp, convs_refl, convs, conv]) (by simp [hD, hN, hL, heapFit, newEmp, conv2s, conv2, convs_refl, convs, conv]) (by intro q hq; first | (simp at hq; done) | (simp at hq; omega) | (simp at hq; simp; omega))
    · intro g hg
      repeat refine AW.seq ?_
      refine AW.reg ?_
      by_cases hlt : g < m.toks.length
      · have hF := hlt
        repeat (first | refine wD1 ?_ | refine wD2 ?_ | refine wE1 ?_ | refine wE2 ?_ | (refine wE3 ?_; intro _) | (refine wE4 ?_; intro _) | refine wN ?_ | ((with_reducible show evIs _ (_ :: _) _ _); first | refine wQ ?_ | refine wF ?_ | refine wG ?_ | refine wT ?_ | refine wM ?_ | refine wS ?_ | refine wP ?_ | refine wJ ?_ | refine wX ?_ | refine wY ?_))
        clear hF
        repeat refine evDone ?_
        try (show AW _ _ _ _ _)
        repeat refine AW.seq ?_
        refine AW.condT (by simp []) (by simp []) ?_
        refine AW.skip ?_
        show AW _ _ _ _ _
        refine AW.seq (AW.block ?_)
        obtain ⟨t, ht⟩ : ∃ t, m.toks[g]? = some t := ⟨_, List.getElem?_eq_getElem hlt⟩
        have he := ints_at ht
        have htt := h.toks t (List.mem_of_getElem? ht)
        have hne : ¬ t = m.tok + 1 := by omega
        repeat refine AW.seq ?_
        refine AW.reg ?_
        have hF := And.intro (hlt) (And.intro (he) (And.intro (hD) (hPD)))
        repeat (first | refine wD1 ?_ | refine wD2 ?_ | refine wE1 ?_ | refine wE2 ?_ | (refine wE3 ?_; intro _) | (refine wE4 ?_; intro _) | refine wN ?_ | ((with_reducible show evIs _ (_ :: _) _ _); first | refine wQ ?_ | refine wF ?_ | refine wG ?_ | refine wT ?_ | refine wM ?_ | refine wS ?_ | refine wP ?_ | refine wJ ?_ | refine wX ?_ | refine wY ?_))
        clear hF
        repeat refine evDone ?_
        try (show AW _ _ _ _ _)
        repeat refine AW.seq ?_
        refine AW.reg ?_
        have hF := And.intro (hne) (And.intro (hD) (hPD))
        repeat (first | refine wD1 ?_ | refine wD2 ?_ | refine wE1 ?_ | refine wE2 ?_ | (refine wE3 ?_; intro _) | (refine wE4 ?_; intro _) | refine wN ?_ | ((with_reducible show evIs _ (_ :: _) _ _); first | refine wQ ?_ | refine wF ?_ | refine wG ?_ | refine wT ?_ | refine wM ?_ | refine wS ?_ | refine wP ?_ | refine wJ ?_ | refine wX ?_ | refine wY ?_))
        clear hF
        repeat refine evDone ?_
        try (show AW _ _ _ _ _)
        repeat refine AW.seq ?_
        refine AW.condF (by simp [hne]) (by simp [hne]) ?_
        refine AW.skip ?_
        show AW _ _ _ _ _
        refine AW.reg ?_
        have hw : IntKind.i64.wrap ((g : Int) + 1) = (g : Int) + 1 := i64_in _ ⟨by omega, by omega⟩
        have hF := hw
        repeat (first | refine wD1 ?_ | refine wD2 ?_ | refine wE1 ?_ | refine wE2 ?_ | (refine wE3 ?_; intro _) | (refine wE4 ?_; intro _) | refine wN ?_ | ((with_reducible show evIs _ (_ :: _) _ _); first | refine wQ ?_ | refine wF ?_ | refine wG ?_ | refine wT ?_ | refine wM ?_ | refine wS ?_ | refine wP ?_ | refine wJ ?_ | refine wX ?_ | refine wY ?_))
        clear hF
        repeat refine evDone ?_
        try (show AW _ _ _ _ _)
        refine ⟨g + 1, by omega, by omega, ?_⟩
        refine Fit.mk _ _ _ (by simp [hw, hD, hPD, hB2, hM1, conv2, newEmp, convs_refl, convs, conv]) (by simp [hw, hD, hPD, hB2, hM1, heapFit, newEmp, conv2s, conv2, convs_refl, convs, conv]) (by intro q hq; first | (simp at hq; done) | (simp at hq; omega) | (simp at hq; simp; omega))
      · have hlt2 : ¬ (g : Int) < m.toks.length := by omega
        have hF := And.intro (hlt) (hlt2)
        repeat (first | refine wD1 ?_ | refine wD2 ?_ | refine wE1 ?_ | refine wE2 ?_ | (refine wE3 ?_; intro _) | (refine wE4 ?_; intro _) | refine wN ?_ | ((with_reducible show evIs _ (_ :: _) _ _); first | refine wQ ?_ | refine wF ?_ | refine wG ?_ | refine wT ?_ | refine wM ?_ | refine wS ?_ | refine wP ?_ | refine wJ ?_ | refine wX ?_ | refine wY ?_))
        clear hF
        repeat refine evDone ?_
        try (show AW _ _ _ _ _)
        repeat refine AW.seq ?_
        refine AW.condF (by simp []) (by simp []) ?_
        refine AW.exit ?_
        show AW _ _ _ _ _
        have hy1 : (m.toks.length + 1) * 8 ≤ 140737488355328 := by omega
        have hy2 : m.toks.length + 1 ≤ 9223372036854775807 := by omega
        have ha1 := ints_app m.toks (m.tok + 1)
        have hs1 := ints_set m.untl i (m.now + 5)
        have hs2 := ints_set m.own i (m.tok + 1)
        have hl1 : (m.untl.set i (m.now + 5)).length = m.untl.length := by simp
        have hl2 : (m.own.set i (m.tok + 1)).length = m.own.length := by simp
        repeat refine AW.seq ?_
        refine AW.draw ?_
        have hF := And.intro (hD) (And.intro (hPD) (And.intro (hPM) (And.intro (hN2) (And.intro (hy1) (hy2)))))
        repeat (first | refine wD1 ?_ | refine wD2 ?_ | refine wE1 ?_ | refine wE2 ?_ | (refine wE3 ?_; intro _) | (refine wE4 ?_; intro _) | refine wN ?_ | ((with_reducible show evIs _ (_ :: _) _ _); first | refine wQ ?_ | refine wF ?_ | refine wG ?_ | refine wT ?_ | refine wM ?_ | refine wS ?_ | refine wP ?_ | refine wJ ?_ | refine wX ?_ | refine wY ?_))
        clear hF
        repeat refine evDone ?_
        try (show AW _ _ _ _ _)
        repeat refine AW.seq ?_
        refine AW.draw ?_
        have hF := And.intro (hD) (And.intro (hPD) (And.intro (hPM) (And.intro (hN2) (And.intro (hw5) (And.intro (hi2) (And.intro (hi3) (And.intro (hil) (hei))))))))
        repeat (first | refine wD1 ?_ | refine wD2 ?_ | refine wE1 ?_ | refine wE2 ?_ | (refine wE3 ?_; intro _) | (refine wE4 ?_; intro _) | refine wN ?_ | ((with_reducible show evIs _ (_ :: _) _ _); first | refine wQ ?_ | refine wF ?_ | refine wG ?_ | refine wT ?_ | refine wM ?_ | refine wS ?_ | refine wP ?_ | refine wJ ?_ | refine wX ?_ | refine wY ?_))
        clear hF
        repeat refine evDone ?_
        try (show AW _ _ _ _ _)
        repeat refine AW.seq ?_
        refine AW.draw ?_
        have hF := And.intro (hD) (And.intro (hPD) (And.intro (hPM) (And.intro (hN2) (And.intro (hi2) (And.intro (hi5) (And.intro (hio) (heo)))))))
        repeat (first | refine wD1 ?_ | refine wD2 ?_ | refine wE1 ?_ | refine wE2 ?_ | (refine wE3 ?_; intro _) | (refine wE4 ?_; intro _) | refine wN ?_ | ((with_reducible show evIs _ (_ :: _) _ _); first | refine wQ ?_ | refine wF ?_ | refine wG ?_ | refine wT ?_ | refine wM ?_ | refine wS ?_ | refine wP ?_ | refine wJ ?_ | refine wX ?_ | refine wY ?_))
        clear hF
        repeat refine evDone ?_
        try (show AW _ _ _ _ _)
        repeat refine AW.seq ?_
        refine AW.reg ?_
        have hF := True.intro
        repeat (first | refine wD1 ?_ | refine wD2 ?_ | refine wE1 ?_ | refine wE2 ?_ | (refine wE3 ?_; intro _) | (refine wE4 ?_; intro _) | refine wN ?_ | ((with_reducible show evIs _ (_ :: _) _ _); first | refine wQ ?_ | refine wF ?_ | refine wG ?_ | refine wT ?_ | refine wM ?_ | refine wS ?_ | refine wP ?_ | refine wJ ?_ | refine wX ?_ | refine wY ?_))
        clear hF
        repeat refine evDone ?_
        try (show AW _ _ _ _ _)
        refine AW.ret ⟨by simp [resP, a25_res, ARes.op], heapv (m.poll j i x) (M + 98) (ru) (ro), N + 200, [.bool true], ⟨m.poll j i x, M + 98, ru, ro, hI, by unfold Roots; omega, rfl, rfl, rfl⟩, by omega, ?_, rfl, by simp, ?_⟩
        · intro p hp
          by_cases hpN : N ≤ p.1
          · exact .inr hpN
          · simp [heapv] at hp
            rcases hp with rfl | rfl | rfl | rfl <;> first | (left; simp [hD]; done) | (exfalso; simp at hpN; omega)
        simp only [resV, a25_res, List.map_cons, List.map_nil, ARes.op, heapv, boxv]
        refine Fit.mk _ _ _ (by simp [MS.poll, hD, hPD, hPM, hN2, hL, hM1, ha1, hs1, hs2, hl1, hl2, conv2, newEmp, convs_refl, convs, conv]) (by simp [MS.poll, hD, hPD, hPM, hN2, hL, hM1, ha1, hs1, hs2, hl1, hl2, heapFit, newEmp, conv2s, conv2, convs_refl, convs, conv]) (by intro q hq; first | (simp at hq; done) | (simp at hq; omega) | (simp at hq; simp; omega))
end Go.Proofs.Ytloccbmiojhabaa
