/- Chapter 40, a task is given out once: report. -/
import Derived.Test.YtloccbmiojhabaaS7

set_option linter.unusedSimpArgs false
set_option linter.unusedVariables false
set_option maxHeartbeats 8000000
namespace Go.Proofs.Ytloccbmiojhabaa
open Go Go.Amb Go.IntWalk

def otherXs (m : MS) (kd : Int) (j i : Nat) (x : Item) : List Item := if kd = 2 then (m.ack j i).xs else if kd = 4 then (m.ext j i x).xs else (m.ret j i x).xs
theorem other_cases {m : MS} {k : Nat} (h : Inv m k) (hk : k ≤ 200) (kd t : Int) :
    (∃ ys tk e, (e = 0) = False ∧ clC (otherR m.xs m.tok kd t m.now) = .tup [.agg [items ys, .int .i64 tk], .int .i64 e] ∧ (atI m t m.untl.length = -1 ∨ ∃ (i : Nat) (u : Int), atI m t m.untl.length = i ∧ kd = 4 ∧ m.untl[i]? = some u ∧ u ≤ m.now)) ∨
    ∃ (j i : Nat) (x : Item), m.xs[j]? = some x ∧ x.task = wt (i + 1) ∧ atI m t m.untl.length = i ∧ m.untl[i]? = some x.til ∧ m.own[i]? = some x.token ∧ x.holder = hh ∧ 1 ≤ x.token ∧ (kd = 4 → m.now < x.til) ∧
      clC (otherR m.xs m.tok kd t m.now) = .tup [.agg [items (otherXs m kd j i x), .int .i64 m.tok], .int .i64 0] := by
  have hn0 := h.now0
  have hn1 := h.now1
  have hp : per m.now 5 = true := by simp [per]; omega
  have hp' : ¬ per m.now 5 = false := by simp [hp]
  have h0 : ((24 : Int) = 0) = False := eq_false (by omega)
  have z : clC (.tup [qz, .int .i64 24]) = .tup [.agg [items [], .int .i64 0], .int .i64 24] := by rw [clT2, clC_qz, clInt]; rfl
  have y : ∀ ys, clC (.tup [qv (.own 13) ys m.tok, .int .i64 0]) = .tup [.agg [items ys, .int .i64 m.tok], .int .i64 0] := fun ys => by rw [clT2, clC_qv _ (.inr ⟨_, rfl⟩), clInt]; rfl
  rcases h.held t with ⟨h1, h2⟩ | ⟨j, i, x, h1, hx, ht, hc, hu, hu2, hut, htk, ht1, ht2, hho, h5⟩
  · left
    refine ⟨[], 0, 24, h0, ?_, .inl (at_none h h2 _ (Nat.le_refl _))⟩
    unfold otherR
    split
    · simp only [ackR, h1]; exact z
    split
    · simp only [extR, h1, if_neg hp']; exact z
    · simp only [retR, h1]; exact z
  · have hil := get_lt hut
    have hat := at_some h hc hu _ (Nat.le_refl _) hil
    have hw : ¬ x.holder = ⟨#[]⟩ := by rw [hho]; decide
    by_cases h4 : kd = 4 ∧ x.til ≤ m.now
    · left
      refine ⟨[], 0, 24, h0, ?_, .inr ⟨i, x.til, hat, h4.1, hut, h4.2⟩⟩
      unfold otherR
      rw [if_neg (by omega), if_pos h4.1]
      simp only [extR, h1, if_neg hp', hx]
      rw [if_pos (.inr h4.2)]
      exact z
    · right
      refine ⟨j, i, x, hx, ht, hat, hut, by rw [htk]; exact hc.1, hho, by omega, fun e => by omega, ?_⟩
      unfold otherR otherXs
      split
      · simp only [ackR, h1]; exact y _
      split
      · simp only [extR, h1, if_neg hp', hx]
        rw [if_neg (by intro e; rcases e with e | e; exact hw e; omega)]
        exact y _
      · simp only [retR, h1, hx]; exact y _
theorem f26 {m : MS} {k : Nat} (h : Inv m k) (h' : Inv m (k + 1)) (hk : k ≤ 200) (kd an aw : Int) (N rt ru ro : Nat) (hR : Roots N rt ru ro) (hN7 : 7 < N) : BCall Try.prog 26 (heapv m rt ru ro) N [.ptr 7 0 0, .agg [.int .i64 kd, .int .i64 an, .int .i64 aw]] (Post k N rt ru ro) := by
  have hR' := hR
  obtain ⟨hr1, hr2, hr3, hr4, hr5, hr6, hr7, hr8, hr9⟩ := hR
  have hD : (rt = 7) = False ∧ (7 = rt) = False ∧ (ru = 7) = False ∧ (7 = ru) = False ∧ (ro = 7) = False ∧ (7 = ro) = False ∧ (rt = ru) = False ∧ (ru = rt) = False ∧ (rt = ro) = False ∧ (ro = rt) = False ∧ (ru = ro) = False ∧ (ro = ru) = False := by
    refine ⟨?_, ?_, ?_, ?_, ?_, ?_, ?_, ?_, ?_, ?_, ?_, ?_⟩ <;> exact eq_false (by omega)
  have hN : (∀ k, (rt = N + k) = False) ∧ (∀ k, (N + k = rt) = False) ∧ (∀ k, (ru = N + k) = False) ∧ (∀ k, (N + k = ru) = False) ∧ (∀ k, (ro = N + k) = False) ∧ (∀ k, (N + k = ro) = False) ∧ (∀ k, (7 = N + k) = False) ∧ (∀ k, (N + k = 7) = False) ∧ (∀ k, (N + k < N) = False) := by
    refine ⟨?_, ?_, ?_, ?_, ?_, ?_, ?_, ?_, ?_⟩ <;> exact fun k => eq_false (by omega)
  have hL : (∀ k, rt < N + k) ∧ (∀ k, ru < N + k) ∧ (∀ k, ro < N + k) ∧ (∀ k, 7 < N + k) := by
    refine ⟨?_, ?_, ?_, ?_⟩ <;> exact fun k => by omega
  have hB : rt < N ∧ ru < N ∧ ro < N ∧ 7 < N := by refine ⟨?_, ?_, ?_, ?_⟩ <;> omega
  have hNN : (N = 7) = False ∧ (7 = N) = False ∧ (N = rt) = False ∧ (rt = N) = False ∧ (N = ru) = False ∧ (ru = N) = False ∧ (N = ro) = False ∧ (ro = N) = False := by
    refine ⟨?_, ?_, ?_, ?_, ?_, ?_, ?_, ?_⟩ <;> exact eq_false (by omega)
  have hun := h.n
  have hlen := h.len
  have hxs := h.nx
  have htl := h.tl
  have htk0 := h.tok0
  have htk1 := h.tok1
  have hnw0 := h.now0
  have hnw1 := h.now1
  unfold heapv boxv
  refine bcall_coded a26_ok (by simp) ?_
  repeat refine AW.seq ?_
  refine AW.reg ?_
  have hF := And.intro (hD) (And.intro (hN) (hNN))
  repeat (first | refine wD1 ?_ | refine wD2 ?_ | refine wE1 ?_ | refine wE2 ?_ | (refine wE3 ?_; intro _) | (refine wE4 ?_; intro _) | refine wN ?_ | ((with_reducible show evIs _ (_ :: _) _ _); first | refine wQ ?_ | refine wF ?_ | refine wG ?_ | refine wT ?_ | refine wM ?_ | refine wS ?_ | refine wP ?_ | refine wJ ?_ | refine wX ?_ | refine wY ?_))
  clear hF
  repeat refine evDone ?_
  try (show AW _ _ _ _ _)
  repeat refine AW.seq ?_
  refine AW.reg ?_
  have hF := True.intro
  repeat (first | refine wD1 ?_ | refine wD2 ?_ | refine wE1 ?_ | refine wE2 ?_ | (refine wE3 ?_; intro _) | (refine wE4 ?_; intro _) | refine wN ?_ | ((with_reducible show evIs _ (_ :: _) _ _); first | refine wQ ?_ | refine wF ?_ | refine wG ?_ | refine wT ?_ | refine wM ?_ | refine wS ?_ | refine wP ?_ | refine wJ ?_ | refine wX ?_ | refine wY ?_))
  clear hF
  repeat refine evDone ?_
  try (show AW _ _ _ _ _)
  obtain ⟨t, ht⟩ : ∃ t, t = tokOf m.toks an := ⟨_, rfl⟩
  refine AW.cut (st' := mkS [(0, .ptr 7 0 0), (3, .ptr N 0 0), (4, .bool false), (5, .int .i64 t), (6, .int .i64 (-1))] [(7, ⟨6, true, [.agg [items m.xs, .int .i64 m.tok, .int .i64 m.now, .hdr rt 0 m.toks.length, .hdr ru 0 m.untl.length, .hdr ro 0 m.own.length]]⟩), (rt, ⟨1, false, ints m.toks⟩), (ru, ⟨1, false, ints m.untl⟩), (ro, ⟨1, false, ints m.own⟩), (N, ⟨3, true, [.agg [.int .i64 kd, .int .i64 an, .int .i64 aw]]⟩)] (N + 1)) ?_ ?_
  · repeat refine AW.seq ?_
    refine AW.reg ?_
    by_cases h1 : 0 < m.toks.length
    · have h1' : (0 : Int) < m.toks.length := by omega
      by_cases h2 : 0 ≤ an
      · have hm := tmod_in h2 h1
        obtain ⟨v, hv⟩ : ∃ v, m.toks[(an.tmod m.toks.length).toNat]? = some v := ⟨_, List.getElem?_eq_getElem (by omega)⟩
        have hev := ints_at hv
        have htv : t = v := by rw [ht, tokOf, if_pos ⟨h1, h2⟩, List.getD_eq_getElem?_getD, hv]; rfl
        have hm1 := hm.1
        have hm2 := hm.2
        have hm3 : (an.tmod m.toks.length).toNat < m.toks.length := by omega
        have hm4 : ¬ m.toks = [] := by intro e; rw [e] at h1; simp at h1
        have hm5 : ¬ m.toks.length = 0 := by omega
        have hF := And.intro (hD) (And.intro (hN) (And.intro (hNN) (And.intro (h1) (And.intro (h1') (h2)))))
        repeat (first | refine wD1 ?_ | refine wD2 ?_ | refine wE1 ?_ | refine wE2 ?_ | (refine wE3 ?_; intro _) | (refine wE4 ?_; intro _) | refine wN ?_ | ((with_reducible show evIs _ (_ :: _) _ _); first | refine wQ ?_ | refine wF ?_ | refine wG ?_ | refine wT ?_ | refine wM ?_ | refine wS ?_ | refine wP ?_ | refine wJ ?_ | refine wX ?_ | refine wY ?_))
        clear hF
        repeat refine evDone ?_
        try (show AW _ _ _ _ _)
        repeat refine AW.seq ?_
        refine AW.condT (by simp []) (by simp []) ?_
        refine AW.draw ?_
        have hF := And.intro (hD) (And.intro (hN) (And.intro (hNN) (And.intro (h1) (And.intro (h1') (And.intro (h2) (And.intro (hm1) (And.intro (hm2) (And.intro (hm3) (And.intro (hev) (And.intro (hm4) (hm5)))))))))))
        repeat (first | refine wD1 ?_ | refine wD2 ?_ | refine wE1 ?_ | refine wE2 ?_ | (refine wE3 ?_; intro _) | (refine wE4 ?_; intro _) | refine wN ?_ | ((with_reducible show evIs _ (_ :: _) _ _); first | refine wQ ?_ | refine wF ?_ | refine wG ?_ | refine wT ?_ | refine wM ?_ | refine wS ?_ | refine wP ?_ | refine wJ ?_ | refine wX ?_ | refine wY ?_))
        clear hF
        repeat refine evDone ?_
        try (show AW _ _ _ _ _)
        refine ⟨rfl, ?_⟩
        refine Fit.mk _ _ _ (by simp [hD, hN, hNN, hL, htv, hB, conv2, newEmp, convs_refl, convs, conv]) (by simp [hD, hN, hNN, hL, htv, hB, heapFit, newEmp, conv2s, conv2, convs_refl, convs, conv]) (by intro q hq; first | (simp at hq; done) | (simp at hq; omega) | (simp at hq; simp; omega))
      · have htv : t = 0 := by rw [ht, tokOf, if_neg (by omega)]
        have hF := And.intro (hD) (And.intro (hN) (And.intro (hNN) (And.intro (h1) (And.intro (h1') (h2)))))
        repeat (first | refine wD1 ?_ | refine wD2 ?_ | refine wE1 ?_ | refine wE2 ?_ | (refine wE3 ?_; intro _) | (refine wE4 ?_; intro _) | refine wN ?_ | ((with_reducible show evIs _ (_ :: _) _ _); first | refine wQ ?_ | refine wF ?_ | refine wG ?_ | refine wT ?_ | refine wM ?_ | refine wS ?_ | refine wP ?_ | refine wJ ?_ | refine wX ?_ | refine wY ?_))
        clear hF
        repeat refine evDone ?_
        try (show AW _ _ _ _ _)
        repeat refine AW.seq ?_
        refine AW.condF (by simp []) (by simp []) ?_
        refine AW.skip ?_
        refine ⟨rfl, ?_⟩
        refine Fit.mk _ _ _ (by simp [hD, hN, hNN, hL, htv, hB, conv2, newEmp, convs_refl, convs, conv]) (by simp [hD, hN, hNN, hL, htv, hB, heapFit, newEmp, conv2s, conv2, convs_refl, convs, conv]) (by intro q hq; first | (simp at hq; done) | (simp at hq; omega) | (simp at hq; simp; omega))
    · have h1' : ¬ (0 : Int) < m.toks.length := by omega
      have htv : t = 0 := by rw [ht, tokOf, if_neg (by omega)]
      have hF := And.intro (hD) (And.intro (hN) (And.intro (hNN) (And.intro (h1) (h1'))))
      repeat (first | refine wD1 ?_ | refine wD2 ?_ | refine wE1 ?_ | refine wE2 ?_ | (refine wE3 ?_; intro _) | (refine wE4 ?_; intro _) | refine wN ?_ | ((with_reducible show evIs _ (_ :: _) _ _); first | refine wQ ?_ | refine wF ?_ | refine wG ?_ | refine wT ?_ | refine wM ?_ | refine wS ?_ | refine wP ?_ | refine wJ ?_ | refine wX ?_ | refine wY ?_))
      clear hF
      repeat refine evDone ?_
      try (show AW _ _ _ _ _)
      repeat refine AW.seq ?_
      refine AW.condF (by simp []) (by simp []) ?_
      refine AW.skip ?_
      refine ⟨rfl, ?_⟩
      refine Fit.mk _ _ _ (by simp [hD, hN, hNN, hL, htv, hB, conv2, newEmp, convs_refl, convs, conv]) (by simp [hD, hN, hNN, hL, htv, hB, heapFit, newEmp, conv2s, conv2, convs_refl, convs, conv]) (by intro q hq; first | (simp at hq; done) | (simp at hq; omega) | (simp at hq; simp; omega))
  obtain ⟨M, hM⟩ : ∃ M, M = N + 1 := ⟨_, rfl⟩
  rw [← hM]
  have hN2 : (∀ k, (rt = M + k) = False) ∧ (∀ k, (M + k = rt) = False) ∧ (∀ k, (ru = M + k) = False) ∧ (∀ k, (M + k = ru) = False) ∧ (∀ k, (ro = M + k) = False) ∧ (∀ k, (M + k = ro) = False) ∧ (∀ k, (7 = M + k) = False) ∧ (∀ k, (M + k = 7) = False) ∧ (∀ k, (M + k < M) = False) := by
    refine ⟨?_, ?_, ?_, ?_, ?_, ?_, ?_, ?_, ?_⟩ <;> exact fun k => eq_false (by omega)
  have hL2 : (∀ k, rt < M + k) ∧ (∀ k, ru < M + k) ∧ (∀ k, ro < M + k) ∧ (∀ k, 7 < M + k) := by
    refine ⟨?_, ?_, ?_, ?_⟩ <;> exact fun k => by omega
  have hB2 : rt < M ∧ ru < M ∧ ro < M ∧ 7 < M := by refine ⟨?_, ?_, ?_, ?_⟩ <;> omega
  have hNM : (∀ k, (N = M + k) = False) ∧ (∀ k, (M + k = N) = False) ∧ N < M ∧ (∀ k, N < M + k) := ⟨fun k => eq_false (by omega), fun k => eq_false (by omega), by omega, fun k => by omega⟩
  have hat0 : atI m t 0 = -1 := rfl
  repeat refine AW.seq ?_
  refine AW.reg ?_
  have hF := And.intro (hD) (hNN)
  repeat (first | refine wD1 ?_ | refine wD2 ?_ | refine wE1 ?_ | refine wE2 ?_ | (refine wE3 ?_; intro _) | (refine wE4 ?_; intro _) | refine wN ?_ | ((with_reducible show evIs _ (_ :: _) _ _); first | refine wQ ?_ | refine wF ?_ | refine wG ?_ | refine wT ?_ | refine wM ?_ | refine wS ?_ | refine wP ?_ | refine wJ ?_ | refine wX ?_ | refine wY ?_))
  clear hF
  repeat refine evDone ?_
  try (show AW _ _ _ _ _)
  repeat refine AW.seq ?_
  refine AW.block ?_
  refine AW.loop (fun i : Nat => i ≤ m.untl.length) (fun i => mkS [(0, .ptr 7 0 0), (3, .ptr N 0 0), (5, .int .i64 t), (6, .int .i64 (atI m t i)), (40, .hdr ro 0 m.own.length), (41, .int .i64 m.own.length), (42, .int .i64 i)] [(7, ⟨6, true, [.agg [items m.xs, .int .i64 m.tok, .int .i64 m.now, .hdr rt 0 m.toks.length, .hdr ru 0 m.untl.length, .hdr ro 0 m.own.length]]⟩), (rt, ⟨1, false, ints m.toks⟩), (ru, ⟨1, false, ints m.untl⟩), (ro, ⟨1, false, ints m.own⟩), (N, ⟨3, true, [.agg [.int .i64 kd, .int .i64 an, .int .i64 aw]]⟩)] M) (fun i => m.untl.length - i) 0 (by simp) ?_ ?_
  · refine Fit.mk _ _ _ (by simp [hat0, hD, hNN, hNM, hB2, conv2, newEmp, convs_refl, convs, conv]) (by simp [hat0, hD, hNN, hNM, hB2, heapFit, newEmp, conv2s, conv2, convs_refl, convs, conv]) (by intro q hq; first | (simp at hq; done) | (simp at hq; omega) | (simp at hq; simp; omega))
  · intro i hi
    repeat refine AW.seq ?_
    refine AW.reg ?_
    by_cases hlt : i < m.untl.length
    · have hlo : i < m.own.length := by omega
      have hF := hlo
      repeat (first | refine wD1 ?_ | refine wD2 ?_ | refine wE1 ?_ | refine wE2 ?_ | (refine wE3 ?_; intro _) | (refine wE4 ?_; intro _) | refine wN ?_ | ((with_reducible show evIs _ (_ :: _) _ _); first | refine wQ ?_ | refine wF ?_ | refine wG ?_ | refine wT ?_ | refine wM ?_ | refine wS ?_ | refine wP ?_ | refine wJ ?_ | refine wX ?_ | refine wY ?_))
      clear hF
      repeat refine evDone ?_
      try (show AW _ _ _ _ _)
      repeat refine AW.seq ?_
      refine AW.condT (by simp [hlo]) (by simp [hlo]) ?_
      refine AW.skip ?_
      show AW _ _ _ _ _
      refine AW.seq (AW.block ?_)
      obtain ⟨u, hu⟩ := get_of hlt
      obtain ⟨o, ho⟩ := get_of hlo
      have heu := ints_at hu
      have heo := ints_at ho
      have hgu := getD_of hu
      have hgo := getD_of ho
      have hi2 : (0 : Int) ≤ i := by omega
      have hi3 : (i : Int) < m.untl.length := by omega
      have hw : IntKind.i64.wrap ((i : Int) + 1) = (i : Int) + 1 := i64_in _ ⟨by omega, by omega⟩
      repeat refine AW.seq ?_
      refine AW.reg ?_
      have hF := And.intro (hlo) (And.intro (heo) (And.intro (hD) (hNN)))
      repeat (first | refine wD1 ?_ | refine wD2 ?_ | refine wE1 ?_ | refine wE2 ?_ | (refine wE3 ?_; intro _) | (refine wE4 ?_; intro _) | refine wN ?_ | ((with_reducible show evIs _ (_ :: _) _ _); first | refine wQ ?_ | refine wF ?_ | refine wG ?_ | refine wT ?_ | refine wM ?_ | refine wS ?_ | refine wP ?_ | refine wJ ?_ | refine wX ?_ | refine wY ?_))
      clear hF
      repeat refine evDone ?_
      try (show AW _ _ _ _ _)
      repeat refine AW.seq ?_
      refine AW.reg ?_
      by_cases h1 : o = t
      · by_cases h2 : 0 < t
        · by_cases h3 : 0 ≤ u
          · have hat : atI m t (i + 1) = i := by rw [atI, hgu, hgo, if_pos ⟨h1, h2, h3⟩]
            have hF := And.intro (h1) (And.intro (h2) (And.intro (h3) (And.intro (heu) (And.intro (hi2) (And.intro (hi3) (And.intro (hlt) (And.intro (hD) (hNN))))))))
            repeat (first | refine wD1 ?_ | refine wD2 ?_ | refine wE1 ?_ | refine wE2 ?_ | (refine wE3 ?_; intro _) | (refine wE4 ?_; intro _) | refine wN ?_ | ((with_reducible show evIs _ (_ :: _) _ _); first | refine wQ ?_ | refine wF ?_ | refine wG ?_ | refine wT ?_ | refine wM ?_ | refine wS ?_ | refine wP ?_ | refine wJ ?_ | refine wX ?_ | refine wY ?_))
            clear hF
            repeat refine evDone ?_
            try (show AW _ _ _ _ _)
            repeat refine AW.seq ?_
            refine AW.condT (by simp []) (by simp []) ?_
            repeat refine AW.seq ?_
            refine AW.reg ?_
            have hF := True.intro
            repeat (first | refine wD1 ?_ | refine wD2 ?_ | refine wE1 ?_ | refine wE2 ?_ | (refine wE3 ?_; intro _) | (refine wE4 ?_; intro _) | refine wN ?_ | ((with_reducible show evIs _ (_ :: _) _ _); first | refine wQ ?_ | refine wF ?_ | refine wG ?_ | refine wT ?_ | refine wM ?_ | refine wS ?_ | refine wP ?_ | refine wJ ?_ | refine wX ?_ | refine wY ?_))
            clear hF
            repeat refine evDone ?_
            try (show AW _ _ _ _ _)
            refine AW.reg ?_
            have hF := hw
            repeat (first | refine wD1 ?_ | refine wD2 ?_ | refine wE1 ?_ | refine wE2 ?_ | (refine wE3 ?_; intro _) | (refine wE4 ?_; intro _) | refine wN ?_ | ((with_reducible show evIs _ (_ :: _) _ _); first | refine wQ ?_ | refine wF ?_ | refine wG ?_ | refine wT ?_ | refine wM ?_ | refine wS ?_ | refine wP ?_ | refine wJ ?_ | refine wX ?_ | refine wY ?_))
            clear hF
            repeat refine evDone ?_
            try (show AW _ _ _ _ _)
            refine ⟨i + 1, by omega, by omega, ?_⟩
            refine Fit.mk _ _ _ (by simp [hw, hat, hD, hNN, hNM, hB2, conv2, newEmp, convs_refl, convs, conv]) (by simp [hw, hat, hD, hNN, hNM, hB2, heapFit, newEmp, conv2s, conv2, convs_refl, convs, conv]) (by intro q hq; first | (simp at hq; done) | (simp at hq; omega) | (simp at hq; simp; omega))
          · have hat : atI m t (i + 1) = atI m t i := by rw [atI, hgu, hgo, if_neg (fun e => h3 e.2.2)]
            have hF := And.intro (h1) (And.intro (h2) (And.intro (h3) (And.intro (heu) (And.intro (hi2) (And.intro (hi3) (And.intro (hlt) (And.intro (hD) (hNN))))))))
            repeat (first | refine wD1 ?_ | refine wD2 ?_ | refine wE1 ?_ | refine wE2 ?_ | (refine wE3 ?_; intro _) | (refine wE4 ?_; intro _) | refine wN ?_ | ((with_reducible show evIs _ (_ :: _) _ _); first | refine wQ ?_ | refine wF ?_ | refine wG ?_ | refine wT ?_ | refine wM ?_ | refine wS ?_ | refine wP ?_ | refine wJ ?_ | refine wX ?_ | refine wY ?_))
            clear hF
            repeat refine evDone ?_
            try (show AW _ _ _ _ _)
            repeat refine AW.seq ?_
            refine AW.condF (by simp []) (by simp []) ?_
            refine AW.skip ?_
            show AW _ _ _ _ _
            refine AW.reg ?_
            have hF := hw
            repeat (first | refine wD1 ?_ | refine wD2 ?_ | refine wE1 ?_ | refine wE2 ?_ | (refine wE3 ?_; intro _) | (refine wE4 ?_; intro _) | refine wN ?_ | ((with_reducible show evIs _ (_ :: _) _ _); first | refine wQ ?_ | refine wF ?_ | refine wG ?_ | refine wT ?_ | refine wM ?_ | refine wS ?_ | refine wP ?_ | refine wJ ?_ | refine wX ?_ | refine wY ?_))
            clear hF
            repeat refine evDone ?_
            try (show AW _ _ _ _ _)
            refine ⟨i + 1, by omega, by omega, ?_⟩
            refine Fit.mk _ _ _ (by simp [hw, hat, hD, hNN, hNM, hB2, conv2, newEmp, convs_refl, convs, conv]) (by simp [hw, hat, hD, hNN, hNM, hB2, heapFit, newEmp, conv2s, conv2, convs_refl, convs, conv]) (by intro q hq; first | (simp at hq; done) | (simp at hq; omega) | (simp at hq; simp; omega))
        · have hat : atI m t (i + 1) = atI m t i := by rw [atI, hgu, hgo, if_neg (fun e => h2 e.2.1)]
          have hF := And.intro (h1) (And.intro (h2) (And.intro (hD) (hNN)))
          repeat (first | refine wD1 ?_ | refine wD2 ?_ | refine wE1 ?_ | refine wE2 ?_ | (refine wE3 ?_; intro _) | (refine wE4 ?_; intro _) | refine wN ?_ | ((with_reducible show evIs _ (_ :: _) _ _); first | refine wQ ?_ | refine wF ?_ | refine wG ?_ | refine wT ?_ | refine wM ?_ | refine wS ?_ | refine wP ?_ | refine wJ ?_ | refine wX ?_ | refine wY ?_))
          clear hF
          repeat refine evDone ?_
          try (show AW _ _ _ _ _)
          repeat refine AW.seq ?_
          refine AW.condF (by simp []) (by simp []) ?_
          refine AW.skip ?_
          show AW _ _ _ _ _
          refine AW.reg ?_
          have hF := hw
          repeat (first | refine wD1 ?_ | refine wD2 ?_ | refine wE1 ?_ | refine wE2 ?_ | (refine wE3 ?_; intro _) | (refine wE4 ?_; intro _) | refine wN ?_ | ((with_reducible show evIs _ (_ :: _) _ _); first | refine wQ ?_ | refine wF ?_ | refine wG ?_ | refine wT ?_ | refine wM ?_ | refine wS ?_ | refine wP ?_ | refine wJ ?_ | refine wX ?_ | refine wY ?_))
          clear hF
          repeat refine evDone ?_
          try (show AW _ _ _ _ _)
          refine ⟨i + 1, by omega, by omega, ?_⟩
          refine Fit.mk _ _ _ (by simp [hw, hat, hD, hNN, hNM, hB2, conv2, newEmp, convs_refl, convs, conv]) (by simp [hw, hat, hD, hNN, hNM, hB2, heapFit, newEmp, conv2s, conv2, convs_refl, convs, conv]) (by intro q hq; first | (simp at hq; done) | (simp at hq; omega) | (simp at hq; simp; omega))
      · have hat : atI m t (i + 1) = atI m t i := by rw [atI, hgu, hgo, if_neg (fun e => h1 e.1)]
        have hF := And.intro (h1) (And.intro (hD) (hNN))
        repeat (first | refine wD1 ?_ | refine wD2 ?_ | refine wE1 ?_ | refine wE2 ?_ | (refine wE3 ?_; intro _) | (refine wE4 ?_; intro _) | refine wN ?_ | ((with_reducible show evIs _ (_ :: _) _ _); first | refine wQ ?_ | refine wF ?_ | refine wG ?_ | refine wT ?_ | refine wM ?_ | refine wS ?_ | refine wP ?_ | refine wJ ?_ | refine wX ?_ | refine wY ?_))
        clear hF
        repeat refine evDone ?_
        try (show AW _ _ _ _ _)
        repeat refine AW.seq ?_
        refine AW.condF (by simp []) (by simp []) ?_
        refine AW.skip ?_
        show AW _ _ _ _ _
        refine AW.reg ?_
        have hF := hw
        repeat (first | refine wD1 ?_ | refine wD2 ?_ | refine wE1 ?_ | refine wE2 ?_ | (refine wE3 ?_; intro _) | (refine wE4 ?_; intro _) | refine wN ?_ | ((with_reducible show evIs _ (_ :: _) _ _); first | refine wQ ?_ | refine wF ?_ | refine wG ?_ | refine wT ?_ | refine wM ?_ | refine wS ?_ | refine wP ?_ | refine wJ ?_ | refine wX ?_ | refine wY ?_))
        clear hF
        repeat refine evDone ?_
        try (show AW _ _ _ _ _)
        refine ⟨i + 1, by omega, by omega, ?_⟩
        refine Fit.mk _ _ _ (by simp [hw, hat, hD, hNN, hNM, hB2, conv2, newEmp, convs_refl, convs, conv]) (by simp [hw, hat, hD, hNN, hNM, hB2, heapFit, newEmp, conv2s, conv2, convs_refl, convs, conv]) (by intro q hq; first | (simp at hq; done) | (simp at hq; omega) | (simp at hq; simp; omega))
    · have hlt2 : ¬ (i : Int) < m.own.length := by omega
      have hlt3 : ¬ i < m.own.length := by omega
      have hii : i = m.untl.length := by omega
      subst hii
      have hF := And.intro (hlt2) (hlt3)
      repeat (first | refine wD1 ?_ | refine wD2 ?_ | refine wE1 ?_ | refine wE2 ?_ | (refine wE3 ?_; intro _) | (refine wE4 ?_; intro _) | refine wN ?_ | ((with_reducible show evIs _ (_ :: _) _ _); first | refine wQ ?_ | refine wF ?_ | refine wG ?_ | refine wT ?_ | refine wM ?_ | refine wS ?_ | refine wP ?_ | refine wJ ?_ | refine wX ?_ | refine wY ?_))
      clear hF
      repeat refine evDone ?_
      try (show AW _ _ _ _ _)
      repeat refine AW.seq ?_
      refine AW.condF (by simp [hlt3]) (by simp [hlt3]) ?_
      refine AW.exit ?_
      show AW _ _ _ _ _
      have hoc := other_cases h hk kd t
      have h42 : ∀ ys tk e, clC (otherR m.xs m.tok kd t m.now) = .tup [.agg [items ys, .int .i64 tk], .int .i64 e] → ACall Try.prog 42 [.agg [items m.xs, .int .i64 m.tok], .int .i64 kd, .int .i64 t, .int .i64 m.now] (· = .tup [.agg [items ys, .int .i64 tk], .int .i64 e]) := fun ys tk e hs => f42 m.xs m.tok kd t m.now (by omega) ys tk e hs
      generalize hat : atI m t m.untl.length = at_ at hoc ⊢
      have hMM : N < N + 200 ∧ M < N + 200 := by omega
      rcases hoc with ⟨ys, tk, e, he, hs, hcase⟩ | ⟨j, i, x, hx, hxt, hai, hxu, hxo, hxh, hx1, hx4, hs⟩
      · have h42 := h42 ys tk e hs
        refine AW.cut (st' := mkS [(0, .ptr 7 0 0), (3, .ptr N 0 0), (6, .int .i64 at_), (9, .ptr (M + 78) 0 0), (10, .int .i64 e)] [(7, ⟨6, true, [.agg [items m.xs, .int .i64 m.tok, .int .i64 m.now, .hdr rt 0 m.toks.length, .hdr ru 0 m.untl.length, .hdr ro 0 m.own.length]]⟩), (rt, ⟨1, false, ints m.toks⟩), (ru, ⟨1, false, ints m.untl⟩), (ro, ⟨1, false, ints m.own⟩), (N, ⟨3, true, [.agg [.int .i64 kd, .int .i64 an, .int .i64 aw]]⟩), (M + 78, ⟨2, true, [.agg [items ys, .int .i64 tk]]⟩)] (M + 80)) ?_ ?_
        · refine AW.draw ?_
          have hF := And.intro (hD) (And.intro (hNN) (And.intro (hN2) (hNM)))
          repeat (first | refine wD1 ?_ | refine wD2 ?_ | refine wE1 ?_ | refine wE2 ?_ | (refine wE3 ?_; intro _) | (refine wE4 ?_; intro _) | refine wN ?_ | ((with_reducible show evIs _ (_ :: _) _ _); first | refine wQ ?_ | refine wF ?_ | refine wG ?_ | refine wT ?_ | refine wM ?_ | refine wS ?_ | refine wP ?_ | refine wJ ?_ | refine wX ?_ | refine wY ?_))
          clear hF
          repeat refine evDone ?_
          try (show AW _ _ _ _ _)
          refine evTwo ?_ ?_
          · have hF := And.intro (hD) (And.intro (hNN) (And.intro (hN2) (hNM)))
            repeat (first | refine wD1 ?_ | refine wD2 ?_ | refine wE1 ?_ | refine wE2 ?_ | (refine wE3 ?_; intro _) | (refine wE4 ?_; intro _) | refine wN ?_ | ((with_reducible show evIs _ (_ :: _) _ _); first | refine wQ ?_ | refine wF ?_ | refine wG ?_ | refine wT ?_ | refine wM ?_ | refine wS ?_ | refine wP ?_ | refine wJ ?_ | refine wX ?_ | refine wY ?_))
            clear hF
            repeat refine evDone ?_
            try (show AW _ _ _ _ _)
            have hF := True.intro
            refine wC (hA := h42) ?_
            clear hF
            have hF := And.intro (hD) (And.intro (hNN) (And.intro (hN2) (hNM)))
            repeat (first | refine wD1 ?_ | refine wD2 ?_ | refine wE1 ?_ | refine wE2 ?_ | (refine wE3 ?_; intro _) | (refine wE4 ?_; intro _) | refine wN ?_ | ((with_reducible show evIs _ (_ :: _) _ _); first | refine wQ ?_ | refine wF ?_ | refine wG ?_ | refine wT ?_ | refine wM ?_ | refine wS ?_ | refine wP ?_ | refine wJ ?_ | refine wX ?_ | refine wY ?_))
            clear hF
            repeat refine evDone ?_
            try (show AW _ _ _ _ _)
            refine ⟨rfl, ?_⟩
            refine Fit.mk _ _ _ (by simp [hD, hNN, hN2, hNM, hL2, hB2, conv2, newEmp, convs_refl, convs, conv]) (by simp [hD, hNN, hN2, hNM, hL2, hB2, heapFit, newEmp, conv2s, conv2, convs_refl, convs, conv]) (by intro q hq; first | (simp at hq; done) | (simp at hq; omega) | (simp at hq; simp; omega))
          · have hF := And.intro (hD) (And.intro (hNN) (And.intro (hN2) (hNM)))
            repeat (first | refine wD1 ?_ | refine wD2 ?_ | refine wE1 ?_ | refine wE2 ?_ | (refine wE3 ?_; intro _) | (refine wE4 ?_; intro _) | refine wN ?_ | ((with_reducible show evIs _ (_ :: _) _ _); first | refine wQ ?_ | refine wF ?_ | refine wG ?_ | refine wT ?_ | refine wM ?_ | refine wS ?_ | refine wP ?_ | refine wJ ?_ | refine wX ?_ | refine wY ?_))
            clear hF
            repeat refine evDone ?_
            try (show AW _ _ _ _ _)
            have hF := True.intro
            refine wC (hA := h42) ?_
            clear hF
            have hF := And.intro (hD) (And.intro (hNN) (And.intro (hN2) (hNM)))
            repeat (first | refine wD1 ?_ | refine wD2 ?_ | refine wE1 ?_ | refine wE2 ?_ | (refine wE3 ?_; intro _) | (refine wE4 ?_; intro _) | refine wN ?_ | ((with_reducible show evIs _ (_ :: _) _ _); first | refine wQ ?_ | refine wF ?_ | refine wG ?_ | refine wT ?_ | refine wM ?_ | refine wS ?_ | refine wP ?_ | refine wJ ?_ | refine wX ?_ | refine wY ?_))
            clear hF
            repeat refine evDone ?_
            try (show AW _ _ _ _ _)
            refine ⟨rfl, ?_⟩
            refine Fit.mk _ _ _ (by simp [hD, hNN, hN2, hNM, hL2, hB2, conv2, newEmp, convs_refl, convs, conv]) (by simp [hD, hNN, hN2, hNM, hL2, hB2, heapFit, newEmp, conv2s, conv2, convs_refl, convs, conv]) (by intro q hq; first | (simp at hq; done) | (simp at hq; omega) | (simp at hq; simp; omega))
        rcases hcase with ha | ⟨i, u, ha, h4, hu, hle⟩
        · repeat refine AW.seq ?_
          refine AW.draw ?_
          have hF := ha
          repeat (first | refine wD1 ?_ | refine wD2 ?_ | refine wE1 ?_ | refine wE2 ?_ | (refine wE3 ?_; intro _) | (refine wE4 ?_; intro _) | refine wN ?_ | ((with_reducible show evIs _ (_ :: _) _ _); first | refine wQ ?_ | refine wF ?_ | refine wG ?_ | refine wT ?_ | refine wM ?_ | refine wS ?_ | refine wP ?_ | refine wJ ?_ | refine wX ?_ | refine wY ?_))
          clear hF
          repeat refine evDone ?_
          try (show AW _ _ _ _ _)
          repeat refine AW.seq ?_
          refine AW.reg ?_
          have hF := he
          repeat (first | refine wD1 ?_ | refine wD2 ?_ | refine wE1 ?_ | refine wE2 ?_ | (refine wE3 ?_; intro _) | (refine wE4 ?_; intro _) | refine wN ?_ | ((with_reducible show evIs _ (_ :: _) _ _); first | refine wQ ?_ | refine wF ?_ | refine wG ?_ | refine wT ?_ | refine wM ?_ | refine wS ?_ | refine wP ?_ | refine wJ ?_ | refine wX ?_ | refine wY ?_))
          clear hF
          repeat refine evDone ?_
          try (show AW _ _ _ _ _)
          repeat refine AW.seq ?_
          refine AW.condF (by simp [he]) (by simp [he]) ?_
          refine AW.skip ?_
          show AW _ _ _ _ _
          repeat refine AW.seq ?_
          refine AW.reg ?_
          have hF := True.intro
          repeat (first | refine wD1 ?_ | refine wD2 ?_ | refine wE1 ?_ | refine wE2 ?_ | (refine wE3 ?_; intro _) | (refine wE4 ?_; intro _) | refine wN ?_ | ((with_reducible show evIs _ (_ :: _) _ _); first | refine wQ ?_ | refine wF ?_ | refine wG ?_ | refine wT ?_ | refine wM ?_ | refine wS ?_ | refine wP ?_ | refine wJ ?_ | refine wX ?_ | refine wY ?_))
          clear hF
          repeat refine evDone ?_
          try (show AW _ _ _ _ _)
          repeat refine AW.seq ?_
          refine AW.condT (by simp []) (by simp []) ?_
          repeat refine AW.seq ?_
          refine AW.reg ?_
          have hF := True.intro
          repeat (first | refine wD1 ?_ | refine wD2 ?_ | refine wE1 ?_ | refine wE2 ?_ | (refine wE3 ?_; intro _) | (refine wE4 ?_; intro _) | refine wN ?_ | ((with_reducible show evIs _ (_ :: _) _ _); first | refine wQ ?_ | refine wF ?_ | refine wG ?_ | refine wT ?_ | refine wM ?_ | refine wS ?_ | refine wP ?_ | refine wJ ?_ | refine wX ?_ | refine wY ?_))
          clear hF
          repeat refine evDone ?_
          try (show AW _ _ _ _ _)
          refine AW.ret ⟨by simp [resP, a26_res, ARes.op], heapv (m) (rt) (ru) (ro), N + 200, [.bool true], ⟨m, rt, ru, ro, h', by unfold Roots; omega, rfl, rfl, rfl⟩, by omega, ?_, rfl, by simp, ?_⟩
          · intro p hp
            by_cases hpN : N ≤ p.1
            · exact .inr hpN
            · simp [heapv] at hp
              rcases hp with rfl | rfl | rfl | rfl <;> first | (left; simp [hD]; done) | (exfalso; simp at hpN; omega)
          simp only [resV, a26_res, List.map_cons, List.map_nil, ARes.op, heapv, boxv]
          refine Fit.mk _ _ _ (by simp [hD, hNN, hN2, hNM, hL, hL2, hB2, hMM, conv2, newEmp, convs_refl, convs, conv]) (by simp [hD, hNN, hN2, hNM, hL, hL2, hB2, hMM, heapFit, newEmp, conv2s, conv2, convs_refl, convs, conv]) (by intro q hq; first | (simp at hq; done) | (simp at hq; omega) | (simp at hq; simp; omega))
        · have hil := get_lt hu
          have heu := ints_at hu
          have hi2 : (0 : Int) ≤ i := by omega
          have hi3 : (i : Int) < m.untl.length := by omega
          have hle2 : ¬ m.now < u := by omega
          repeat refine AW.seq ?_
          refine AW.draw ?_
          have hF := And.intro (ha) (And.intro (h4) (And.intro (heu) (And.intro (hi2) (And.intro (hi3) (And.intro (hil) (And.intro (hle2) (And.intro (hD) (And.intro (hNN) (And.intro (hN2) (hNM))))))))))
          repeat (first | refine wD1 ?_ | refine wD2 ?_ | refine wE1 ?_ | refine wE2 ?_ | (refine wE3 ?_; intro _) | (refine wE4 ?_; intro _) | refine wN ?_ | ((with_reducible show evIs _ (_ :: _) _ _); first | refine wQ ?_ | refine wF ?_ | refine wG ?_ | refine wT ?_ | refine wM ?_ | refine wS ?_ | refine wP ?_ | refine wJ ?_ | refine wX ?_ | refine wY ?_))
          clear hF
          repeat refine evDone ?_
          try (show AW _ _ _ _ _)
          repeat refine AW.seq ?_
          refine AW.reg ?_
          have hF := he
          repeat (first | refine wD1 ?_ | refine wD2 ?_ | refine wE1 ?_ | refine wE2 ?_ | (refine wE3 ?_; intro _) | (refine wE4 ?_; intro _) | refine wN ?_ | ((with_reducible show evIs _ (_ :: _) _ _); first | refine wQ ?_ | refine wF ?_ | refine wG ?_ | refine wT ?_ | refine wM ?_ | refine wS ?_ | refine wP ?_ | refine wJ ?_ | refine wX ?_ | refine wY ?_))
          clear hF
          repeat refine evDone ?_
          try (show AW _ _ _ _ _)
          repeat refine AW.seq ?_
          refine AW.condF (by simp [he]) (by simp [he]) ?_
          refine AW.skip ?_
          show AW _ _ _ _ _
          repeat refine AW.seq ?_
          refine AW.reg ?_
          have hF := True.intro
          repeat (first | refine wD1 ?_ | refine wD2 ?_ | refine wE1 ?_ | refine wE2 ?_ | (refine wE3 ?_; intro _) | (refine wE4 ?_; intro _) | refine wN ?_ | ((with_reducible show evIs _ (_ :: _) _ _); first | refine wQ ?_ | refine wF ?_ | refine wG ?_ | refine wT ?_ | refine wM ?_ | refine wS ?_ | refine wP ?_ | refine wJ ?_ | refine wX ?_ | refine wY ?_))
          clear hF
          repeat refine evDone ?_
          try (show AW _ _ _ _ _)
          repeat refine AW.seq ?_
          refine AW.condT (by simp []) (by simp []) ?_
          repeat refine AW.seq ?_
          refine AW.reg ?_
          have hF := True.intro
          repeat (first | refine wD1 ?_ | refine wD2 ?_ | refine wE1 ?_ | refine wE2 ?_ | (refine wE3 ?_; intro _) | (refine wE4 ?_; intro _) | refine wN ?_ | ((with_reducible show evIs _ (_ :: _) _ _); first | refine wQ ?_ | refine wF ?_ | refine wG ?_ | refine wT ?_ | refine wM ?_ | refine wS ?_ | refine wP ?_ | refine wJ ?_ | refine wX ?_ | refine wY ?_))
          clear hF
          repeat refine evDone ?_
          try (show AW _ _ _ _ _)
          refine AW.ret ⟨by simp [resP, a26_res, ARes.op], heapv (m) (rt) (ru) (ro), N + 200, [.bool true], ⟨m, rt, ru, ro, h', by unfold Roots; omega, rfl, rfl, rfl⟩, by omega, ?_, rfl, by simp, ?_⟩
          · intro p hp
            by_cases hpN : N ≤ p.1
            · exact .inr hpN
            · simp [heapv] at hp
              rcases hp with rfl | rfl | rfl | rfl <;> first | (left; simp [hD]; done) | (exfalso; simp at hpN; omega)
          simp only [resV, a26_res, List.map_cons, List.map_nil, ARes.op, heapv, boxv]
          refine Fit.mk _ _ _ (by simp [hD, hNN, hN2, hNM, hL, hL2, hB2, hMM, conv2, newEmp, convs_refl, convs, conv]) (by simp [hD, hNN, hN2, hNM, hL, hL2, hB2, hMM, heapFit, newEmp, conv2s, conv2, convs_refl, convs, conv]) (by intro q hq; first | (simp at hq; done) | (simp at hq; omega) | (simp at hq; simp; omega))
      · have h42 := h42 _ _ _ hs
        have hil := get_lt hxu
        have hiol := get_lt hxo
        have heu := ints_at hxu
        have heo := ints_at hxo
        have hi2 : (0 : Int) ≤ i := by omega
        have hi3 : (i : Int) < m.untl.length := by omega
        have hi5 : (i : Int) < m.own.length := by omega
        have hw5 : IntKind.i64.wrap (m.now + 5) = m.now + 5 := i64w (by omega) (by omega)
        have hs1 := ints_set m.untl i (m.now + 5)
        have hs2 := ints_set m.untl i (-1)
        have hs3 := ints_set m.untl i 0
        have hs4 := ints_set m.own i 0
        have hl1 : ∀ a, (m.untl.set i a).length = m.untl.length := by simp
        have hl2 : ∀ a, (m.own.set i a).length = m.own.length := by simp
        by_cases h2 : kd = 2
        · have hI := h.ack hx hxt
          have h4 : ¬ kd = 4 := by omega
          have hox : otherXs m kd j i x = (m.ack j i).xs := by simp [otherXs, h2]
          rw [hox] at h42
          refine AW.cut (st' := mkS [(0, .ptr 7 0 0), (3, .ptr N 0 0), (6, .int .i64 at_), (9, .ptr (M + 78) 0 0), (10, .int .i64 0)] [(7, ⟨6, true, [.agg [items m.xs, .int .i64 m.tok, .int .i64 m.now, .hdr rt 0 m.toks.length, .hdr ru 0 m.untl.length, .hdr ro 0 m.own.length]]⟩), (rt, ⟨1, false, ints m.toks⟩), (ru, ⟨1, false, ints m.untl⟩), (ro, ⟨1, false, ints m.own⟩), (N, ⟨3, true, [.agg [.int .i64 kd, .int .i64 an, .int .i64 aw]]⟩), (M + 78, ⟨2, true, [.agg [items (m.ack j i).xs, .int .i64 m.tok]]⟩)] (M + 80)) ?_ ?_
          · refine AW.draw ?_
            have hF := And.intro (hD) (And.intro (hNN) (And.intro (hN2) (hNM)))
            repeat (first | refine wD1 ?_ | refine wD2 ?_ | refine wE1 ?_ | refine wE2 ?_ | (refine wE3 ?_; intro _) | (refine wE4 ?_; intro _) | refine wN ?_ | ((with_reducible show evIs _ (_ :: _) _ _); first | refine wQ ?_ | refine wF ?_ | refine wG ?_ | refine wT ?_ | refine wM ?_ | refine wS ?_ | refine wP ?_ | refine wJ ?_ | refine wX ?_ | refine wY ?_))
            clear hF
            repeat refine evDone ?_
            try (show AW _ _ _ _ _)
            refine evTwo ?_ ?_
            · have hF := And.intro (hD) (And.intro (hNN) (And.intro (hN2) (hNM)))
              repeat (first | refine wD1 ?_ | refine wD2 ?_ | refine wE1 ?_ | refine wE2 ?_ | (refine wE3 ?_; intro _) | (refine wE4 ?_; intro _) | refine wN ?_ | ((with_reducible show evIs _ (_ :: _) _ _); first | refine wQ ?_ | refine wF ?_ | refine wG ?_ | refine wT ?_ | refine wM ?_ | refine wS ?_ | refine wP ?_ | refine wJ ?_ | refine wX ?_ | refine wY ?_))
              clear hF
              repeat refine evDone ?_
              try (show AW _ _ _ _ _)
              have hF := True.intro
              refine wC (hA := h42) ?_
              clear hF
              have hF := And.intro (hD) (And.intro (hNN) (And.intro (hN2) (hNM)))
              repeat (first | refine wD1 ?_ | refine wD2 ?_ | refine wE1 ?_ | refine wE2 ?_ | (refine wE3 ?_; intro _) | (refine wE4 ?_; intro _) | refine wN ?_ | ((with_reducible show evIs _ (_ :: _) _ _); first | refine wQ ?_ | refine wF ?_ | refine wG ?_ | refine wT ?_ | refine wM ?_ | refine wS ?_ | refine wP ?_ | refine wJ ?_ | refine wX ?_ | refine wY ?_))
              clear hF
              repeat refine evDone ?_
              try (show AW _ _ _ _ _)
              refine ⟨rfl, ?_⟩
              refine Fit.mk _ _ _ (by simp [hD, hNN, hN2, hNM, hL2, hB2, conv2, newEmp, convs_refl, convs, conv]) (by simp [hD, hNN, hN2, hNM, hL2, hB2, heapFit, newEmp, conv2s, conv2, convs_refl, convs, conv]) (by intro q hq; first | (simp at hq; done) | (simp at hq; omega) | (simp at hq; simp; omega))
            · have hF := And.intro (hD) (And.intro (hNN) (And.intro (hN2) (hNM)))
              repeat (first | refine wD1 ?_ | refine wD2 ?_ | refine wE1 ?_ | refine wE2 ?_ | (refine wE3 ?_; intro _) | (refine wE4 ?_; intro _) | refine wN ?_ | ((with_reducible show evIs _ (_ :: _) _ _); first | refine wQ ?_ | refine wF ?_ | refine wG ?_ | refine wT ?_ | refine wM ?_ | refine wS ?_ | refine wP ?_ | refine wJ ?_ | refine wX ?_ | refine wY ?_))
              clear hF
              repeat refine evDone ?_
              try (show AW _ _ _ _ _)
              have hF := True.intro
              refine wC (hA := h42) ?_
              clear hF
              have hF := And.intro (hD) (And.intro (hNN) (And.intro (hN2) (hNM)))
              repeat (first | refine wD1 ?_ | refine wD2 ?_ | refine wE1 ?_ | refine wE2 ?_ | (refine wE3 ?_; intro _) | (refine wE4 ?_; intro _) | refine wN ?_ | ((with_reducible show evIs _ (_ :: _) _ _); first | refine wQ ?_ | refine wF ?_ | refine wG ?_ | refine wT ?_ | refine wM ?_ | refine wS ?_ | refine wP ?_ | refine wJ ?_ | refine wX ?_ | refine wY ?_))
              clear hF
              repeat refine evDone ?_
              try (show AW _ _ _ _ _)
              refine ⟨rfl, ?_⟩
              refine Fit.mk _ _ _ (by simp [hD, hNN, hN2, hNM, hL2, hB2, conv2, newEmp, convs_refl, convs, conv]) (by simp [hD, hNN, hN2, hNM, hL2, hB2, heapFit, newEmp, conv2s, conv2, convs_refl, convs, conv]) (by intro q hq; first | (simp at hq; done) | (simp at hq; omega) | (simp at hq; simp; omega))
          repeat refine AW.seq ?_
          refine AW.draw ?_
          have hF := And.intro (hai) (And.intro (h2) (And.intro (h4) (And.intro (heu) (And.intro (hi2) (And.intro (hi3) (And.intro (hil) (And.intro (hD) (And.intro (hNN) (And.intro (hN2) (hNM))))))))))
          repeat (first | refine wD1 ?_ | refine wD2 ?_ | refine wE1 ?_ | refine wE2 ?_ | (refine wE3 ?_; intro _) | (refine wE4 ?_; intro _) | refine wN ?_ | ((with_reducible show evIs _ (_ :: _) _ _); first | refine wQ ?_ | refine wF ?_ | refine wG ?_ | refine wT ?_ | refine wM ?_ | refine wS ?_ | refine wP ?_ | refine wJ ?_ | refine wX ?_ | refine wY ?_))
          clear hF
          repeat refine evDone ?_
          try (show AW _ _ _ _ _)
          repeat refine AW.seq ?_
          refine AW.reg ?_
          have hF := True.intro
          repeat (first | refine wD1 ?_ | refine wD2 ?_ | refine wE1 ?_ | refine wE2 ?_ | (refine wE3 ?_; intro _) | (refine wE4 ?_; intro _) | refine wN ?_ | ((with_reducible show evIs _ (_ :: _) _ _); first | refine wQ ?_ | refine wF ?_ | refine wG ?_ | refine wT ?_ | refine wM ?_ | refine wS ?_ | refine wP ?_ | refine wJ ?_ | refine wX ?_ | refine wY ?_))
          clear hF
          repeat refine evDone ?_
          try (show AW _ _ _ _ _)
          repeat refine AW.seq ?_
          refine AW.condF (by simp []) (by simp []) ?_
          refine AW.skip ?_
          show AW _ _ _ _ _
          repeat refine AW.seq ?_
          refine AW.reg ?_
          have hF := True.intro
          repeat (first | refine wD1 ?_ | refine wD2 ?_ | refine wE1 ?_ | refine wE2 ?_ | (refine wE3 ?_; intro _) | (refine wE4 ?_; intro _) | refine wN ?_ | ((with_reducible show evIs _ (_ :: _) _ _); first | refine wQ ?_ | refine wF ?_ | refine wG ?_ | refine wT ?_ | refine wM ?_ | refine wS ?_ | refine wP ?_ | refine wJ ?_ | refine wX ?_ | refine wY ?_))
          clear hF
          repeat refine evDone ?_
          try (show AW _ _ _ _ _)
          repeat refine AW.seq ?_
          refine AW.condF (by simp []) (by simp []) ?_
          refine AW.skip ?_
          show AW _ _ _ _ _
          repeat refine AW.seq ?_
          refine AW.reg ?_
          have hF := And.intro (hD) (And.intro (hNN) (And.intro (hN2) (hNM)))
          repeat (first | refine wD1 ?_ | refine wD2 ?_ | refine wE1 ?_ | refine wE2 ?_ | (refine wE3 ?_; intro _) | (refine wE4 ?_; intro _) | refine wN ?_ | ((with_reducible show evIs _ (_ :: _) _ _); first | refine wQ ?_ | refine wF ?_ | refine wG ?_ | refine wT ?_ | refine wM ?_ | refine wS ?_ | refine wP ?_ | refine wJ ?_ | refine wX ?_ | refine wY ?_))
          clear hF
          repeat refine evDone ?_
          try (show AW _ _ _ _ _)
          repeat refine AW.seq ?_
          refine AW.reg ?_
          have hF := And.intro (hD) (And.intro (hNN) (And.intro (hN2) (hNM)))
          repeat (first | refine wD1 ?_ | refine wD2 ?_ | refine wE1 ?_ | refine wE2 ?_ | (refine wE3 ?_; intro _) | (refine wE4 ?_; intro _) | refine wN ?_ | ((with_reducible show evIs _ (_ :: _) _ _); first | refine wQ ?_ | refine wF ?_ | refine wG ?_ | refine wT ?_ | refine wM ?_ | refine wS ?_ | refine wP ?_ | refine wJ ?_ | refine wX ?_ | refine wY ?_))
          clear hF
          repeat refine evDone ?_
          try (show AW _ _ _ _ _)
          repeat refine AW.seq ?_
          refine AW.block ?_
          repeat refine AW.seq ?_
          refine AW.reg ?_
          have hF := h2
          repeat (first | refine wD1 ?_ | refine wD2 ?_ | refine wE1 ?_ | refine wE2 ?_ | (refine wE3 ?_; intro _) | (refine wE4 ?_; intro _) | refine wN ?_ | ((with_reducible show evIs _ (_ :: _) _ _); first | refine wQ ?_ | refine wF ?_ | refine wG ?_ | refine wT ?_ | refine wM ?_ | refine wS ?_ | refine wP ?_ | refine wJ ?_ | refine wX ?_ | refine wY ?_))
          clear hF
          repeat refine evDone ?_
          try (show AW _ _ _ _ _)
          repeat refine AW.seq ?_
          refine AW.condT (by simp [h2]) (by simp [h2]) ?_
          repeat refine AW.seq ?_
          refine AW.reg ?_
          have hF := And.intro (hai) (And.intro (heu) (And.intro (hi2) (And.intro (hi3) (And.intro (hil) (And.intro (hD) (And.intro (hNN) (And.intro (hN2) (hNM))))))))
          repeat (first | refine wD1 ?_ | refine wD2 ?_ | refine wE1 ?_ | refine wE2 ?_ | (refine wE3 ?_; intro _) | (refine wE4 ?_; intro _) | refine wN ?_ | ((with_reducible show evIs _ (_ :: _) _ _); first | refine wQ ?_ | refine wF ?_ | refine wG ?_ | refine wT ?_ | refine wM ?_ | refine wS ?_ | refine wP ?_ | refine wJ ?_ | refine wX ?_ | refine wY ?_))
          clear hF
          repeat refine evDone ?_
          try (show AW _ _ _ _ _)
          repeat refine AW.seq ?_
          refine AW.reg ?_
          have hF := True.intro
          repeat (first | refine wD1 ?_ | refine wD2 ?_ | refine wE1 ?_ | refine wE2 ?_ | (refine wE3 ?_; intro _) | (refine wE4 ?_; intro _) | refine wN ?_ | ((with_reducible show evIs _ (_ :: _) _ _); first | refine wQ ?_ | refine wF ?_ | refine wG ?_ | refine wT ?_ | refine wM ?_ | refine wS ?_ | refine wP ?_ | refine wJ ?_ | refine wX ?_ | refine wY ?_))
          clear hF
          repeat refine evDone ?_
          try (show AW _ _ _ _ _)
          refine AW.ret ⟨by simp [resP, a26_res, ARes.op], heapv (m.ack j i) (rt) (ru) (ro), N + 200, [.bool true], ⟨m.ack j i, rt, ru, ro, hI, by unfold Roots; omega, rfl, rfl, rfl⟩, by omega, ?_, rfl, by simp, ?_⟩
          · intro p hp
            by_cases hpN : N ≤ p.1
            · exact .inr hpN
            · simp [heapv] at hp
              rcases hp with rfl | rfl | rfl | rfl <;> first | (left; simp [hD]; done) | (exfalso; simp at hpN; omega)
          simp only [resV, a26_res, List.map_cons, List.map_nil, ARes.op, heapv, boxv]
          refine Fit.mk _ _ _ (by simp [hD, hNN, hN2, hNM, hL, hL2, hB2, hMM, hs1, hs2, hs3, hs4, hl1, hl2, MS.ack, MS.ext, MS.ret, conv2, newEmp, convs_refl, convs, conv]) (by simp [hD, hNN, hN2, hNM, hL, hL2, hB2, hMM, hs1, hs2, hs3, hs4, hl1, hl2, MS.ack, MS.ext, MS.ret, heapFit, newEmp, conv2s, conv2, convs_refl, convs, conv]) (by intro q hq; first | (simp at hq; done) | (simp at hq; omega) | (simp at hq; simp; omega))
        · by_cases h4 : kd = 4
          · have hI := h.ext hk hx hxt hxh hx1
            have hlt4 := hx4 h4
            have hox : otherXs m kd j i x = (m.ext j i x).xs := by simp [otherXs, h4]
            rw [hox] at h42
            refine AW.cut (st' := mkS [(0, .ptr 7 0 0), (3, .ptr N 0 0), (6, .int .i64 at_), (9, .ptr (M + 78) 0 0), (10, .int .i64 0)] [(7, ⟨6, true, [.agg [items m.xs, .int .i64 m.tok, .int .i64 m.now, .hdr rt 0 m.toks.length, .hdr ru 0 m.untl.length, .hdr ro 0 m.own.length]]⟩), (rt, ⟨1, false, ints m.toks⟩), (ru, ⟨1, false, ints m.untl⟩), (ro, ⟨1, false, ints m.own⟩), (N, ⟨3, true, [.agg [.int .i64 kd, .int .i64 an, .int .i64 aw]]⟩), (M + 78, ⟨2, true, [.agg [items (m.ext j i x).xs, .int .i64 m.tok]]⟩)] (M + 80)) ?_ ?_
            · refine AW.draw ?_
              have hF := And.intro (hD) (And.intro (hNN) (And.intro (hN2) (hNM)))
              repeat (first | refine wD1 ?_ | refine wD2 ?_ | refine wE1 ?_ | refine wE2 ?_ | (refine wE3 ?_; intro _) | (refine wE4 ?_; intro _) | refine wN ?_ | ((with_reducible show evIs _ (_ :: _) _ _); first | refine wQ ?_ | refine wF ?_ | refine wG ?_ | refine wT ?_ | refine wM ?_ | refine wS ?_ | refine wP ?_ | refine wJ ?_ | refine wX ?_ | refine wY ?_))
              clear hF
              repeat refine evDone ?_
              try (show AW _ _ _ _ _)
              refine evTwo ?_ ?_
              · have hF := And.intro (hD) (And.intro (hNN) (And.intro (hN2) (hNM)))
                repeat (first | refine wD1 ?_ | refine wD2 ?_ | refine wE1 ?_ | refine wE2 ?_ | (refine wE3 ?_; intro _) | (refine wE4 ?_; intro _) | refine wN ?_ | ((with_reducible show evIs _ (_ :: _) _ _); first | refine wQ ?_ | refine wF ?_ | refine wG ?_ | refine wT ?_ | refine wM ?_ | refine wS ?_ | refine wP ?_ | refine wJ ?_ | refine wX ?_ | refine wY ?_))
                clear hF
                repeat refine evDone ?_
                try (show AW _ _ _ _ _)
                have hF := True.intro
                refine wC (hA := h42) ?_
                clear hF
                have hF := And.intro (hD) (And.intro (hNN) (And.intro (hN2) (hNM)))
                repeat (first | refine wD1 ?_ | refine wD2 ?_ | refine wE1 ?_ | refine wE2 ?_ | (refine wE3 ?_; intro _) | (refine wE4 ?_; intro _) | refine wN ?_ | ((with_reducible show evIs _ (_ :: _) _ _); first | refine wQ ?_ | refine wF ?_ | refine wG ?_ | refine wT ?_ | refine wM ?_ | refine wS ?_ | refine wP ?_ | refine wJ ?_ | refine wX ?_ | refine wY ?_))
                clear hF
                repeat refine evDone ?_
                try (show AW _ _ _ _ _)
                refine ⟨rfl, ?_⟩
                refine Fit.mk _ _ _ (by simp [hD, hNN, hN2, hNM, hL2, hB2, conv2, newEmp, convs_refl, convs, conv]) (by simp [hD, hNN, hN2, hNM, hL2, hB2, heapFit, newEmp, conv2s, conv2, convs_refl, convs, conv]) (by intro q hq; first | (simp at hq; done) | (simp at hq; omega) | (simp at hq; simp; omega))
              · have hF := And.intro (hD) (And.intro (hNN) (And.intro (hN2) (hNM)))
                repeat (first | refine wD1 ?_ | refine wD2 ?_ | refine wE1 ?_ | refine wE2 ?_ | (refine wE3 ?_; intro _) | (refine wE4 ?_; intro _) | refine wN ?_ | ((with_reducible show evIs _ (_ :: _) _ _); first | refine wQ ?_ | refine wF ?_ | refine wG ?_ | refine wT ?_ | refine wM ?_ | refine wS ?_ | refine wP ?_ | refine wJ ?_ | refine wX ?_ | refine wY ?_))
                clear hF
                repeat refine evDone ?_
                try (show AW _ _ _ _ _)
                have hF := True.intro
                refine wC (hA := h42) ?_
                clear hF
                have hF := And.intro (hD) (And.intro (hNN) (And.intro (hN2) (hNM)))
                repeat (first | refine wD1 ?_ | refine wD2 ?_ | refine wE1 ?_ | refine wE2 ?_ | (refine wE3 ?_; intro _) | (refine wE4 ?_; intro _) | refine wN ?_ | ((with_reducible show evIs _ (_ :: _) _ _); first | refine wQ ?_ | refine wF ?_ | refine wG ?_ | refine wT ?_ | refine wM ?_ | refine wS ?_ | refine wP ?_ | refine wJ ?_ | refine wX ?_ | refine wY ?_))
                clear hF
                repeat refine evDone ?_
                try (show AW _ _ _ _ _)
                refine ⟨rfl, ?_⟩
                refine Fit.mk _ _ _ (by simp [hD, hNN, hN2, hNM, hL2, hB2, conv2, newEmp, convs_refl, convs, conv]) (by simp [hD, hNN, hN2, hNM, hL2, hB2, heapFit, newEmp, conv2s, conv2, convs_refl, convs, conv]) (by intro q hq; first | (simp at hq; done) | (simp at hq; omega) | (simp at hq; simp; omega))
            repeat refine AW.seq ?_
            refine AW.draw ?_
            have hF := And.intro (hai) (And.intro (h2) (And.intro (h4) (And.intro (hlt4) (And.intro (heu) (And.intro (hi2) (And.intro (hi3) (And.intro (hil) (And.intro (hD) (And.intro (hNN) (And.intro (hN2) (hNM)))))))))))
            repeat (first | refine wD1 ?_ | refine wD2 ?_ | refine wE1 ?_ | refine wE2 ?_ | (refine wE3 ?_; intro _) | (refine wE4 ?_; intro _) | refine wN ?_ | ((with_reducible show evIs _ (_ :: _) _ _); first | refine wQ ?_ | refine wF ?_ | refine wG ?_ | refine wT ?_ | refine wM ?_ | refine wS ?_ | refine wP ?_ | refine wJ ?_ | refine wX ?_ | refine wY ?_))
            clear hF
            repeat refine evDone ?_
            try (show AW _ _ _ _ _)
            repeat refine AW.seq ?_
            refine AW.reg ?_
            have hF := True.intro
            repeat (first | refine wD1 ?_ | refine wD2 ?_ | refine wE1 ?_ | refine wE2 ?_ | (refine wE3 ?_; intro _) | (refine wE4 ?_; intro _) | refine wN ?_ | ((with_reducible show evIs _ (_ :: _) _ _); first | refine wQ ?_ | refine wF ?_ | refine wG ?_ | refine wT ?_ | refine wM ?_ | refine wS ?_ | refine wP ?_ | refine wJ ?_ | refine wX ?_ | refine wY ?_))
            clear hF
            repeat refine evDone ?_
            try (show AW _ _ _ _ _)
            repeat refine AW.seq ?_
            refine AW.condF (by simp []) (by simp []) ?_
            refine AW.skip ?_
            show AW _ _ _ _ _
            repeat refine AW.seq ?_
            refine AW.reg ?_
            have hF := True.intro
            repeat (first | refine wD1 ?_ | refine wD2 ?_ | refine wE1 ?_ | refine wE2 ?_ | (refine wE3 ?_; intro _) | (refine wE4 ?_; intro _) | refine wN ?_ | ((with_reducible show evIs _ (_ :: _) _ _); first | refine wQ ?_ | refine wF ?_ | refine wG ?_ | refine wT ?_ | refine wM ?_ | refine wS ?_ | refine wP ?_ | refine wJ ?_ | refine wX ?_ | refine wY ?_))
            clear hF
            repeat refine evDone ?_
            try (show AW _ _ _ _ _)
            repeat refine AW.seq ?_
            refine AW.condF (by simp []) (by simp []) ?_
            refine AW.skip ?_
            show AW _ _ _ _ _
            repeat refine AW.seq ?_
            refine AW.reg ?_
            have hF := And.intro (hD) (And.intro (hNN) (And.intro (hN2) (hNM)))
            repeat (first | refine wD1 ?_ | refine wD2 ?_ | refine wE1 ?_ | refine wE2 ?_ | (refine wE3 ?_; intro _) | (refine wE4 ?_; intro _) | refine wN ?_ | ((with_reducible show evIs _ (_ :: _) _ _); first | refine wQ ?_ | refine wF ?_ | refine wG ?_ | refine wT ?_ | refine wM ?_ | refine wS ?_ | refine wP ?_ | refine wJ ?_ | refine wX ?_ | refine wY ?_))
            clear hF
            repeat refine evDone ?_
            try (show AW _ _ _ _ _)
            repeat refine AW.seq ?_
            refine AW.reg ?_
            have hF := And.intro (hD) (And.intro (hNN) (And.intro (hN2) (hNM)))
            repeat (first | refine wD1 ?_ | refine wD2 ?_ | refine wE1 ?_ | refine wE2 ?_ | (refine wE3 ?_; intro _) | (refine wE4 ?_; intro _) | refine wN ?_ | ((with_reducible show evIs _ (_ :: _) _ _); first | refine wQ ?_ | refine wF ?_ | refine wG ?_ | refine wT ?_ | refine wM ?_ | refine wS ?_ | refine wP ?_ | refine wJ ?_ | refine wX ?_ | refine wY ?_))
            clear hF
            repeat refine evDone ?_
            try (show AW _ _ _ _ _)
            repeat refine AW.seq ?_
            refine AW.block ?_
            repeat refine AW.seq ?_
            refine AW.reg ?_
            have hF := h2
            repeat (first | refine wD1 ?_ | refine wD2 ?_ | refine wE1 ?_ | refine wE2 ?_ | (refine wE3 ?_; intro _) | (refine wE4 ?_; intro _) | refine wN ?_ | ((with_reducible show evIs _ (_ :: _) _ _); first | refine wQ ?_ | refine wF ?_ | refine wG ?_ | refine wT ?_ | refine wM ?_ | refine wS ?_ | refine wP ?_ | refine wJ ?_ | refine wX ?_ | refine wY ?_))
            clear hF
            repeat refine evDone ?_
            try (show AW _ _ _ _ _)
            repeat refine AW.seq ?_
            refine AW.condF (by simp [h2]) (by simp [h2]) ?_
            repeat refine AW.seq ?_
            refine AW.reg ?_
            have hF := h4
            repeat (first | refine wD1 ?_ | refine wD2 ?_ | refine wE1 ?_ | refine wE2 ?_ | (refine wE3 ?_; intro _) | (refine wE4 ?_; intro _) | refine wN ?_ | ((with_reducible show evIs _ (_ :: _) _ _); first | refine wQ ?_ | refine wF ?_ | refine wG ?_ | refine wT ?_ | refine wM ?_ | refine wS ?_ | refine wP ?_ | refine wJ ?_ | refine wX ?_ | refine wY ?_))
            clear hF
            repeat refine evDone ?_
            try (show AW _ _ _ _ _)
            repeat refine AW.seq ?_
            refine AW.condT (by simp [h4]) (by simp [h4]) ?_
            repeat refine AW.seq ?_
            refine AW.draw ?_
            have hF := And.intro (hai) (And.intro (heu) (And.intro (hi2) (And.intro (hi3) (And.intro (hil) (And.intro (hw5) (And.intro (hD) (And.intro (hNN) (And.intro (hN2) (hNM)))))))))
            repeat (first | refine wD1 ?_ | refine wD2 ?_ | refine wE1 ?_ | refine wE2 ?_ | (refine wE3 ?_; intro _) | (refine wE4 ?_; intro _) | refine wN ?_ | ((with_reducible show evIs _ (_ :: _) _ _); first | refine wQ ?_ | refine wF ?_ | refine wG ?_ | refine wT ?_ | refine wM ?_ | refine wS ?_ | refine wP ?_ | refine wJ ?_ | refine wX ?_ | refine wY ?_))
            clear hF
            repeat refine evDone ?_
            try (show AW _ _ _ _ _)
            repeat refine AW.seq ?_
            refine AW.reg ?_
            have hF := True.intro
            repeat (first | refine wD1 ?_ | refine wD2 ?_ | refine wE1 ?_ | refine wE2 ?_ | (refine wE3 ?_; intro _) | (refine wE4 ?_; intro _) | refine wN ?_ | ((with_reducible show evIs _ (_ :: _) _ _); first | refine wQ ?_ | refine wF ?_ | refine wG ?_ | refine wT ?_ | refine wM ?_ | refine wS ?_ | refine wP ?_ | refine wJ ?_ | refine wX ?_ | refine wY ?_))
            clear hF
            repeat refine evDone ?_
            try (show AW _ _ _ _ _)
            refine AW.ret ⟨by simp [resP, a26_res, ARes.op], heapv (m.ext j i x) (rt) (ru) (ro), N + 200, [.bool true], ⟨m.ext j i x, rt, ru, ro, hI, by unfold Roots; omega, rfl, rfl, rfl⟩, by omega, ?_, rfl, by simp, ?_⟩
            · intro p hp
              by_cases hpN : N ≤ p.1
              · exact .inr hpN
              · simp [heapv] at hp
                rcases hp with rfl | rfl | rfl | rfl <;> first | (left; simp [hD]; done) | (exfalso; simp at hpN; omega)
            simp only [resV, a26_res, List.map_cons, List.map_nil, ARes.op, heapv, boxv]
            refine Fit.mk _ _ _ (by simp [hD, hNN, hN2, hNM, hL, hL2, hB2, hMM, hs1, hs2, hs3, hs4, hl1, hl2, MS.ack, MS.ext, MS.ret, conv2, newEmp, convs_refl, convs, conv]) (by simp [hD, hNN, hN2, hNM, hL, hL2, hB2, hMM, hs1, hs2, hs3, hs4, hl1, hl2, MS.ack, MS.ext, MS.ret, heapFit, newEmp, conv2s, conv2, convs_refl, convs, conv]) (by intro q hq; first | (simp at hq; done) | (simp at hq; omega) | (simp at hq; simp; omega))
          · have hI := h.ret hx hxt
            have hox : otherXs m kd j i x = (m.ret j i x).xs := by simp [otherXs, h2, h4]
            rw [hox] at h42
            refine AW.cut (st' := mkS [(0, .ptr 7 0 0), (3, .ptr N 0 0), (6, .int .i64 at_), (9, .ptr (M + 78) 0 0), (10, .int .i64 0)] [(7, ⟨6, true, [.agg [items m.xs, .int .i64 m.tok, .int .i64 m.now, .hdr rt 0 m.toks.length, .hdr ru 0 m.untl.length, .hdr ro 0 m.own.length]]⟩), (rt, ⟨1, false, ints m.toks⟩), (ru, ⟨1, false, ints m.untl⟩), (ro, ⟨1, false, ints m.own⟩), (N, ⟨3, true, [.agg [.int .i64 kd, .int .i64 an, .int .i64 aw]]⟩), (M + 78, ⟨2, true, [.agg [items (m.ret j i x).xs, .int .i64 m.tok]]⟩)] (M + 80)) ?_ ?_
            · refine AW.draw ?_
              have hF := And.intro (hD) (And.intro (hNN) (And.intro (hN2) (hNM)))
              repeat (first | refine wD1 ?_ | refine wD2 ?_ | refine wE1 ?_ | refine wE2 ?_ | (refine wE3 ?_; intro _) | (refine wE4 ?_; intro _) | refine wN ?_ | ((with_reducible show evIs _ (_ :: _) _ _); first | refine wQ ?_ | refine wF ?_ | refine wG ?_ | refine wT ?_ | refine wM ?_ | refine wS ?_ | refine wP ?_ | refine wJ ?_ | refine wX ?_ | refine wY ?_))
              clear hF
              repeat refine evDone ?_
              try (show AW _ _ _ _ _)
              refine evTwo ?_ ?_
              · have hF := And.intro (hD) (And.intro (hNN) (And.intro (hN2) (hNM)))
                repeat (first | refine wD1 ?_ | refine wD2 ?_ | refine wE1 ?_ | refine wE2 ?_ | (refine wE3 ?_; intro _) | (refine wE4 ?_; intro _) | refine wN ?_ | ((with_reducible show evIs _ (_ :: _) _ _); first | refine wQ ?_ | refine wF ?_ | refine wG ?_ | refine wT ?_ | refine wM ?_ | refine wS ?_ | refine wP ?_ | refine wJ ?_ | refine wX ?_ | refine wY ?_))
                clear hF
                repeat refine evDone ?_
                try (show AW _ _ _ _ _)
                have hF := True.intro
                refine wC (hA := h42) ?_
                clear hF
                have hF := And.intro (hD) (And.intro (hNN) (And.intro (hN2) (hNM)))
                repeat (first | refine wD1 ?_ | refine wD2 ?_ | refine wE1 ?_ | refine wE2 ?_ | (refine wE3 ?_; intro _) | (refine wE4 ?_; intro _) | refine wN ?_ | ((with_reducible show evIs _ (_ :: _) _ _); first | refine wQ ?_ | refine wF ?_ | refine wG ?_ | refine wT ?_ | refine wM ?_ | refine wS ?_ | refine wP ?_ | refine wJ ?_ | refine wX ?_ | refine wY ?_))
                clear hF
                repeat refine evDone ?_
                try (show AW _ _ _ _ _)
                refine ⟨rfl, ?_⟩
                refine Fit.mk _ _ _ (by simp [hD, hNN, hN2, hNM, hL2, hB2, conv2, newEmp, convs_refl, convs, conv]) (by simp [hD, hNN, hN2, hNM, hL2, hB2, heapFit, newEmp, conv2s, conv2, convs_refl, convs, conv]) (by intro q hq; first | (simp at hq; done) | (simp at hq; omega) | (simp at hq; simp; omega))
              · have hF := And.intro (hD) (And.intro (hNN) (And.intro (hN2) (hNM)))
                repeat (first | refine wD1 ?_ | refine wD2 ?_ | refine wE1 ?_ | refine wE2 ?_ | (refine wE3 ?_; intro _) | (refine wE4 ?_; intro _) | refine wN ?_ | ((with_reducible show evIs _ (_ :: _) _ _); first | refine wQ ?_ | refine wF ?_ | refine wG ?_ | refine wT ?_ | refine wM ?_ | refine wS ?_ | refine wP ?_ | refine wJ ?_ | refine wX ?_ | refine wY ?_))
                clear hF
                repeat refine evDone ?_
                try (show AW _ _ _ _ _)
                have hF := True.intro
                refine wC (hA := h42) ?_
                clear hF
                have hF := And.intro (hD) (And.intro (hNN) (And.intro (hN2) (hNM)))
                repeat (first | refine wD1 ?_ | refine wD2 ?_ | refine wE1 ?_ | refine wE2 ?_ | (refine wE3 ?_; intro _) | (refine wE4 ?_; intro _) | refine wN ?_ | ((with_reducible show evIs _ (_ :: _) _ _); first | refine wQ ?_ | refine wF ?_ | refine wG ?_ | refine wT ?_ | refine wM ?_ | refine wS ?_ | refine wP ?_ | refine wJ ?_ | refine wX ?_ | refine wY ?_))
                clear hF
                repeat refine evDone ?_
                try (show AW _ _ _ _ _)
                refine ⟨rfl, ?_⟩
                refine Fit.mk _ _ _ (by simp [hD, hNN, hN2, hNM, hL2, hB2, conv2, newEmp, convs_refl, convs, conv]) (by simp [hD, hNN, hN2, hNM, hL2, hB2, heapFit, newEmp, conv2s, conv2, convs_refl, convs, conv]) (by intro q hq; first | (simp at hq; done) | (simp at hq; omega) | (simp at hq; simp; omega))
            repeat refine AW.seq ?_
            refine AW.draw ?_
            have hF := And.intro (hai) (And.intro (h2) (And.intro (h4) (And.intro (heu) (And.intro (hi2) (And.intro (hi3) (And.intro (hil) (And.intro (hD) (And.intro (hNN) (And.intro (hN2) (hNM))))))))))
            repeat (first | refine wD1 ?_ | refine wD2 ?_ | refine wE1 ?_ | refine wE2 ?_ | (refine wE3 ?_; intro _) | (refine wE4 ?_; intro _) | refine wN ?_ | ((with_reducible show evIs _ (_ :: _) _ _); first | refine wQ ?_ | refine wF ?_ | refine wG ?_ | refine wT ?_ | refine wM ?_ | refine wS ?_ | refine wP ?_ | refine wJ ?_ | refine wX ?_ | refine wY ?_))
            clear hF
            repeat refine evDone ?_
            try (show AW _ _ _ _ _)
            repeat refine AW.seq ?_
            refine AW.reg ?_
            have hF := True.intro
            repeat (first | refine wD1 ?_ | refine wD2 ?_ | refine wE1 ?_ | refine wE2 ?_ | (refine wE3 ?_; intro _) | (refine wE4 ?_; intro _) | refine wN ?_ | ((with_reducible show evIs _ (_ :: _) _ _); first | refine wQ ?_ | refine wF ?_ | refine wG ?_ | refine wT ?_ | refine wM ?_ | refine wS ?_ | refine wP ?_ | refine wJ ?_ | refine wX ?_ | refine wY ?_))
            clear hF
            repeat refine evDone ?_
            try (show AW _ _ _ _ _)
            repeat refine AW.seq ?_
            refine AW.condF (by simp []) (by simp []) ?_
            refine AW.skip ?_
            show AW _ _ _ _ _
            repeat refine AW.seq ?_
            refine AW.reg ?_
            have hF := True.intro
            repeat (first | refine wD1 ?_ | refine wD2 ?_ | refine wE1 ?_ | refine wE2 ?_ | (refine wE3 ?_; intro _) | (refine wE4 ?_; intro _) | refine wN ?_ | ((with_reducible show evIs _ (_ :: _) _ _); first | refine wQ ?_ | refine wF ?_ | refine wG ?_ | refine wT ?_ | refine wM ?_ | refine wS ?_ | refine wP ?_ | refine wJ ?_ | refine wX ?_ | refine wY ?_))
            clear hF
            repeat refine evDone ?_
            try (show AW _ _ _ _ _)
            repeat refine AW.seq ?_
            refine AW.condF (by simp []) (by simp []) ?_
            refine AW.skip ?_
            show AW _ _ _ _ _
            repeat refine AW.seq ?_
            refine AW.reg ?_
            have hF := And.intro (hD) (And.intro (hNN) (And.intro (hN2) (hNM)))
            repeat (first | refine wD1 ?_ | refine wD2 ?_ | refine wE1 ?_ | refine wE2 ?_ | (refine wE3 ?_; intro _) | (refine wE4 ?_; intro _) | refine wN ?_ | ((with_reducible show evIs _ (_ :: _) _ _); first | refine wQ ?_ | refine wF ?_ | refine wG ?_ | refine wT ?_ | refine wM ?_ | refine wS ?_ | refine wP ?_ | refine wJ ?_ | refine wX ?_ | refine wY ?_))
            clear hF
            repeat refine evDone ?_
            try (show AW _ _ _ _ _)
            repeat refine AW.seq ?_
            refine AW.reg ?_
            have hF := And.intro (hD) (And.intro (hNN) (And.intro (hN2) (hNM)))
            repeat (first | refine wD1 ?_ | refine wD2 ?_ | refine wE1 ?_ | refine wE2 ?_ | (refine wE3 ?_; intro _) | (refine wE4 ?_; intro _) | refine wN ?_ | ((with_reducible show evIs _ (_ :: _) _ _); first | refine wQ ?_ | refine wF ?_ | refine wG ?_ | refine wT ?_ | refine wM ?_ | refine wS ?_ | refine wP ?_ | refine wJ ?_ | refine wX ?_ | refine wY ?_))
            clear hF
            repeat refine evDone ?_
            try (show AW _ _ _ _ _)
            repeat refine AW.seq ?_
            refine AW.block ?_
            repeat refine AW.seq ?_
            refine AW.reg ?_
            have hF := h2
            repeat (first | refine wD1 ?_ | refine wD2 ?_ | refine wE1 ?_ | refine wE2 ?_ | (refine wE3 ?_; intro _) | (refine wE4 ?_; intro _) | refine wN ?_ | ((with_reducible show evIs _ (_ :: _) _ _); first | refine wQ ?_ | refine wF ?_ | refine wG ?_ | refine wT ?_ | refine wM ?_ | refine wS ?_ | refine wP ?_ | refine wJ ?_ | refine wX ?_ | refine wY ?_))
            clear hF
            repeat refine evDone ?_
            try (show AW _ _ _ _ _)
            repeat refine AW.seq ?_
            refine AW.condF (by simp [h2]) (by simp [h2]) ?_
            repeat refine AW.seq ?_
            refine AW.reg ?_
            have hF := h4
            repeat (first | refine wD1 ?_ | refine wD2 ?_ | refine wE1 ?_ | refine wE2 ?_ | (refine wE3 ?_; intro _) | (refine wE4 ?_; intro _) | refine wN ?_ | ((with_reducible show evIs _ (_ :: _) _ _); first | refine wQ ?_ | refine wF ?_ | refine wG ?_ | refine wT ?_ | refine wM ?_ | refine wS ?_ | refine wP ?_ | refine wJ ?_ | refine wX ?_ | refine wY ?_))
            clear hF
            repeat refine evDone ?_
            try (show AW _ _ _ _ _)
            repeat refine AW.seq ?_
            refine AW.condF (by simp [h4]) (by simp [h4]) ?_
            repeat refine AW.seq ?_
            refine AW.reg ?_
            have hF := And.intro (hai) (And.intro (heu) (And.intro (hi2) (And.intro (hi3) (And.intro (hil) (And.intro (hD) (And.intro (hNN) (And.intro (hN2) (hNM))))))))
            repeat (first | refine wD1 ?_ | refine wD2 ?_ | refine wE1 ?_ | refine wE2 ?_ | (refine wE3 ?_; intro _) | (refine wE4 ?_; intro _) | refine wN ?_ | ((with_reducible show evIs _ (_ :: _) _ _); first | refine wQ ?_ | refine wF ?_ | refine wG ?_ | refine wT ?_ | refine wM ?_ | refine wS ?_ | refine wP ?_ | refine wJ ?_ | refine wX ?_ | refine wY ?_))
            clear hF
            repeat refine evDone ?_
            try (show AW _ _ _ _ _)
            repeat refine AW.seq ?_
            refine AW.reg ?_
            have hF := And.intro (hai) (And.intro (heo) (And.intro (hi2) (And.intro (hi5) (And.intro (hiol) (And.intro (hD) (And.intro (hNN) (And.intro (hN2) (hNM))))))))
            repeat (first | refine wD1 ?_ | refine wD2 ?_ | refine wE1 ?_ | refine wE2 ?_ | (refine wE3 ?_; intro _) | (refine wE4 ?_; intro _) | refine wN ?_ | ((with_reducible show evIs _ (_ :: _) _ _); first | refine wQ ?_ | refine wF ?_ | refine wG ?_ | refine wT ?_ | refine wM ?_ | refine wS ?_ | refine wP ?_ | refine wJ ?_ | refine wX ?_ | refine wY ?_))
            clear hF
            repeat refine evDone ?_
            try (show AW _ _ _ _ _)
            repeat refine AW.seq ?_
            refine AW.reg ?_
            have hF := True.intro
            repeat (first | refine wD1 ?_ | refine wD2 ?_ | refine wE1 ?_ | refine wE2 ?_ | (refine wE3 ?_; intro _) | (refine wE4 ?_; intro _) | refine wN ?_ | ((with_reducible show evIs _ (_ :: _) _ _); first | refine wQ ?_ | refine wF ?_ | refine wG ?_ | refine wT ?_ | refine wM ?_ | refine wS ?_ | refine wP ?_ | refine wJ ?_ | refine wX ?_ | refine wY ?_))
            clear hF
            repeat refine evDone ?_
            try (show AW _ _ _ _ _)
            refine AW.ret ⟨by simp [resP, a26_res, ARes.op], heapv (m.ret j i x) (rt) (ru) (ro), N + 200, [.bool true], ⟨m.ret j i x, rt, ru, ro, hI, by unfold Roots; omega, rfl, rfl, rfl⟩, by omega, ?_, rfl, by simp, ?_⟩
            · intro p hp
              by_cases hpN : N ≤ p.1
              · exact .inr hpN
              · simp [heapv] at hp
                rcases hp with rfl | rfl | rfl | rfl <;> first | (left; simp [hD]; done) | (exfalso; simp at hpN; omega)
            simp only [resV, a26_res, List.map_cons, List.map_nil, ARes.op, heapv, boxv]
            refine Fit.mk _ _ _ (by simp [hD, hNN, hN2, hNM, hL, hL2, hB2, hMM, hs1, hs2, hs3, hs4, hl1, hl2, MS.ack, MS.ext, MS.ret, conv2, newEmp, convs_refl, convs, conv]) (by simp [hD, hNN, hN2, hNM, hL, hL2, hB2, hMM, hs1, hs2, hs3, hs4, hl1, hl2, MS.ack, MS.ext, MS.ret, heapFit, newEmp, conv2s, conv2, convs_refl, convs, conv]) (by intro q hq; first | (simp at hq; done) | (simp at hq; omega) | (simp at hq; simp; omega))
end Go.Proofs.Ytloccbmiojhabaa
