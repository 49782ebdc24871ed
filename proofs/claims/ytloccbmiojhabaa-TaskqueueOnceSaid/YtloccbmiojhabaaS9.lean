/- Chapter 40, a task is given out once: the statement. -/
import Derived.Test.YtloccbmiojhabaaS8
import Derived.Test.YtloccbmiojhabaaS5

set_option linter.unusedSimpArgs false
set_option linter.unusedVariables false
set_option maxHeartbeats 8000000
namespace Go.Proofs.Ytloccbmiojhabaa
open Go Go.Amb Go.IntWalk

structure Act where
  kd : Int
  n : Int
  w : Int
def Act.av (a : Act) : AV := .agg [.int .i64 a.kd, .int .i64 a.n, .int .i64 a.w]
def m0 : MS := ⟨[], 0, 0, [], [], []⟩
theorem inv0 : Inv m0 0 :=
  ⟨rfl, Nat.le_refl _, Nat.le_refl _, by decide, by decide, by decide, by decide, Nat.le_refl _, by simp [m0], by simp [m0], by simp [m0], by simp [m0], by simp [m0], by simp [m0], by simp [m0]⟩
theorem wrap_small {a : Nat} (h : a ≤ 7) : IntKind.i64.wrap (a : Int) = a := i64_in _ ⟨by omega, by omega⟩
theorem and7 (w : Int) : (BitVec.ofInt 64 w &&& 7#64).toNat ≤ 7 := by
  rw [BitVec.toNat_and]
  exact Nat.and_le_right
theorem f6 (l : List Act) (hl : l.length ≤ 9223372036854775807) : ACall Try.prog 6 [.sl .fro (l.map Act.av)] (· = .bool true) := by
  refine a6_of (by simp) ?_
  repeat refine AW.seq ?_
  refine AW.reg ?_
  have hF := True.intro
  repeat (first | refine wD1 ?_ | refine wD2 ?_ | refine wE1 ?_ | refine wE2 ?_ | (refine wE3 ?_; intro _) | (refine wE4 ?_; intro _) | refine wN ?_ | ((with_reducible show evIs _ (_ :: _) _ _); first | refine wQ ?_ | refine wF ?_ | refine wG ?_ | refine wT ?_ | refine wM ?_ | refine wS ?_ | refine wP ?_ | refine wJ ?_ | refine wX ?_ | refine wY ?_))
  clear hF
  repeat refine evDone ?_
  try (show AW _ _ _ _ _)
  repeat refine AW.seq ?_
  refine AW.reg ?_
  by_cases h60 : 60 < (l.length : Int)
  · have hF := h60
    repeat (first | refine wD1 ?_ | refine wD2 ?_ | refine wE1 ?_ | refine wE2 ?_ | (refine wE3 ?_; intro _) | (refine wE4 ?_; intro _) | refine wN ?_ | ((with_reducible show evIs _ (_ :: _) _ _); first | refine wQ ?_ | refine wF ?_ | refine wG ?_ | refine wT ?_ | refine wM ?_ | refine wS ?_ | refine wP ?_ | refine wJ ?_ | refine wX ?_ | refine wY ?_))
    clear hF
    repeat refine evDone ?_
    try (show AW _ _ _ _ _)
    repeat refine AW.seq ?_
    refine AW.condT (by simp [h60]) (by simp [h60]) ?_
    repeat refine AW.seq ?_
    refine AW.reg ?_
    have hF := True.intro
    repeat (first | refine wD1 ?_ | refine wD2 ?_ | refine wE1 ?_ | refine wE2 ?_ | (refine wE3 ?_; intro _) | (refine wE4 ?_; intro _) | refine wN ?_ | ((with_reducible show evIs _ (_ :: _) _ _); first | refine wQ ?_ | refine wF ?_ | refine wG ?_ | refine wT ?_ | refine wM ?_ | refine wS ?_ | refine wP ?_ | refine wJ ?_ | refine wX ?_ | refine wY ?_))
    clear hF
    repeat refine evDone ?_
    try (show AW _ _ _ _ _)
    have hF := True.intro
    refine wC (hA := works) ?_
    clear hF
    have hF := True.intro
    repeat (first | refine wD1 ?_ | refine wD2 ?_ | refine wE1 ?_ | refine wE2 ?_ | (refine wE3 ?_; intro _) | (refine wE4 ?_; intro _) | refine wN ?_ | ((with_reducible show evIs _ (_ :: _) _ _); first | refine wQ ?_ | refine wF ?_ | refine wG ?_ | refine wT ?_ | refine wM ?_ | refine wS ?_ | refine wP ?_ | refine wJ ?_ | refine wX ?_ | refine wY ?_))
    clear hF
    repeat refine evDone ?_
    try (show AW _ _ _ _ _)
    refine AW.ret (retI rfl ?_)
    simp [a6_res, resOk, resP, resV, ARes.op, R2s, R2, R1s, R1, closeOk, closeV]
  have hF := h60
  repeat (first | refine wD1 ?_ | refine wD2 ?_ | refine wE1 ?_ | refine wE2 ?_ | (refine wE3 ?_; intro _) | (refine wE4 ?_; intro _) | refine wN ?_ | ((with_reducible show evIs _ (_ :: _) _ _); first | refine wQ ?_ | refine wF ?_ | refine wG ?_ | refine wT ?_ | refine wM ?_ | refine wS ?_ | refine wP ?_ | refine wJ ?_ | refine wX ?_ | refine wY ?_))
  clear hF
  repeat refine evDone ?_
  try (show AW _ _ _ _ _)
  repeat refine AW.seq ?_
  refine AW.condF (by simp [h60]) (by simp [h60]) ?_
  refine AW.skip ?_
  show AW _ _ _ _ _
  repeat refine AW.seq ?_
  refine AW.reg ?_
  have hF := True.intro
  repeat (first | refine wD1 ?_ | refine wD2 ?_ | refine wE1 ?_ | refine wE2 ?_ | (refine wE3 ?_; intro _) | (refine wE4 ?_; intro _) | refine wN ?_ | ((with_reducible show evIs _ (_ :: _) _ _); first | refine wQ ?_ | refine wF ?_ | refine wG ?_ | refine wT ?_ | refine wM ?_ | refine wS ?_ | refine wP ?_ | refine wJ ?_ | refine wX ?_ | refine wY ?_))
  clear hF
  repeat refine evDone ?_
  try (show AW _ _ _ _ _)
  repeat refine AW.seq ?_
  refine AW.reg ?_
  have hF := True.intro
  repeat (first | refine wD1 ?_ | refine wD2 ?_ | refine wE1 ?_ | refine wE2 ?_ | (refine wE3 ?_; intro _) | (refine wE4 ?_; intro _) | refine wN ?_ | ((with_reducible show evIs _ (_ :: _) _ _); first | refine wQ ?_ | refine wF ?_ | refine wG ?_ | refine wT ?_ | refine wM ?_ | refine wS ?_ | refine wP ?_ | refine wJ ?_ | refine wX ?_ | refine wY ?_))
  clear hF
  repeat refine evDone ?_
  try (show AW _ _ _ _ _)
  repeat refine AW.seq ?_
  refine AW.block ?_
  refine AW.loop (fun g : Nat × Nat × Nat × Nat × Nat × MS => g.1 ≤ l.length ∧ Roots g.2.1 g.2.2.1 g.2.2.2.1 g.2.2.2.2.1 ∧ 7 < g.2.1 ∧ Inv g.2.2.2.2.2 (2 * g.1))
    (fun g => mkS [(3, .ptr 7 0 0), (16, .sl .fro (l.map Act.av)), (17, .int .i64 l.length), (18, .int .i64 g.1)] [(7, ⟨6, true, [.agg [items g.2.2.2.2.2.xs, .int .i64 g.2.2.2.2.2.tok, .int .i64 g.2.2.2.2.2.now, .hdr g.2.2.1 0 g.2.2.2.2.2.toks.length, .hdr g.2.2.2.1 0 g.2.2.2.2.2.untl.length, .hdr g.2.2.2.2.1 0 g.2.2.2.2.2.own.length]]⟩), (g.2.2.1, ⟨1, false, ints g.2.2.2.2.2.toks⟩), (g.2.2.2.1, ⟨1, false, ints g.2.2.2.2.2.untl⟩), (g.2.2.2.2.1, ⟨1, false, ints g.2.2.2.2.2.own⟩)] g.2.1) (fun g => l.length - g.1) (0, 20, 10, 11, 12, m0) ⟨by simp, by simp [Roots], by simp, inv0⟩ ?_ ?_
  · refine Fit.mk _ _ _ (by simp [m0, ints, items, conv2, newEmp, convs_refl, convs, conv]) (by simp [m0, ints, items, heapFit, newEmp, conv2s, conv2, convs_refl, convs, conv]) (by intro q hq; first | (simp at hq; done) | (simp at hq; omega) | (simp at hq; simp; omega))
  · rintro ⟨i, n, rt, ru, ro, m⟩ ⟨hi, hR, hN7, h⟩
    dsimp only at hi hR hN7 h ⊢
    have hR' := hR
    obtain ⟨hr1, hr2, hr3, hr4, hr5, hr6, hr7, hr8, hr9⟩ := hR
    have hD : (rt = 7) = False ∧ (7 = rt) = False ∧ (ru = 7) = False ∧ (7 = ru) = False ∧ (ro = 7) = False ∧ (7 = ro) = False ∧ (rt = ru) = False ∧ (ru = rt) = False ∧ (rt = ro) = False ∧ (ro = rt) = False ∧ (ru = ro) = False ∧ (ro = ru) = False := by
      refine ⟨?_, ?_, ?_, ?_, ?_, ?_, ?_, ?_, ?_, ?_, ?_, ?_⟩ <;> exact eq_false (by omega)
    have hN : (∀ k, (rt = n + k) = False) ∧ (∀ k, (n + k = rt) = False) ∧ (∀ k, (ru = n + k) = False) ∧ (∀ k, (n + k = ru) = False) ∧ (∀ k, (ro = n + k) = False) ∧ (∀ k, (n + k = ro) = False) ∧ (∀ k, (7 = n + k) = False) ∧ (∀ k, (n + k = 7) = False) ∧ (∀ k, (n + k < n) = False) := by
      refine ⟨?_, ?_, ?_, ?_, ?_, ?_, ?_, ?_, ?_⟩ <;> exact fun k => eq_false (by omega)
    have hL : (∀ k, rt < n + k) ∧ (∀ k, ru < n + k) ∧ (∀ k, ro < n + k) ∧ (∀ k, 7 < n + k) := by
      refine ⟨?_, ?_, ?_, ?_⟩ <;> exact fun k => by omega
    have hB : rt < n ∧ ru < n ∧ ro < n ∧ 7 < n := by refine ⟨?_, ?_, ?_, ?_⟩ <;> omega
    repeat refine AW.seq ?_
    refine AW.reg ?_
    by_cases hlt : i < l.length
    · have hF := hlt
      repeat (first | refine wD1 ?_ | refine wD2 ?_ | refine wE1 ?_ | refine wE2 ?_ | (refine wE3 ?_; intro _) | (refine wE4 ?_; intro _) | refine wN ?_ | ((with_reducible show evIs _ (_ :: _) _ _); first | refine wQ ?_ | refine wF ?_ | refine wG ?_ | refine wT ?_ | refine wM ?_ | refine wS ?_ | refine wP ?_ | refine wJ ?_ | refine wX ?_ | refine wY ?_))
      clear hF
      repeat refine evDone ?_
      try (show AW _ _ _ _ _)
      repeat refine AW.seq ?_
      refine AW.condT (by simp []) (by simp []) ?_
      refine AW.skip ?_
      show AW _ _ _ _ _
      refine AW.seq (AW.block ?_)
      obtain ⟨x, hx⟩ : ∃ x, l[i]? = some x := ⟨_, List.getElem?_eq_getElem hlt⟩
      have he := elem_map (f := Act.av) hx
      obtain ⟨kd, an, aw⟩ := x
      simp only [Act.av] at he
      have hnw0 := h.now0
      have hnw1 := h.now1
      repeat refine AW.seq ?_
      refine AW.reg ?_
      have hF := And.intro (hlt) (And.intro (he) (And.intro (hD) (hN)))
      repeat (first | refine wD1 ?_ | refine wD2 ?_ | refine wE1 ?_ | refine wE2 ?_ | (refine wE3 ?_; intro _) | (refine wE4 ?_; intro _) | refine wN ?_ | ((with_reducible show evIs _ (_ :: _) _ _); first | refine wQ ?_ | refine wF ?_ | refine wG ?_ | refine wT ?_ | refine wM ?_ | refine wS ?_ | refine wP ?_ | refine wJ ?_ | refine wX ?_ | refine wY ?_))
      clear hF
      repeat refine evDone ?_
      try (show AW _ _ _ _ _)
      obtain ⟨d, hd, hd0, hd7⟩ : ∃ d : Int, IntKind.i64.wrap (((aw % 2 ^ IntKind.i64.bits).toNat &&& 7 % 2 ^ IntKind.i64.bits : Nat) : Int) = d ∧ 0 ≤ d ∧ d ≤ 7 := by
        have h7 : ((aw % 2 ^ IntKind.i64.bits).toNat &&& 7 % 2 ^ IntKind.i64.bits) ≤ 7 := Nat.le_trans Nat.and_le_right (Nat.mod_le _ _)
        exact ⟨_, rfl, by rw [wrap_small h7]; omega, by rw [wrap_small h7]; omega⟩
      have hw7 : IntKind.i64.wrap (m.now + d) = m.now + d := i64_in _ ⟨by omega, by omega⟩
      have hM := h.more hd0 hd7
      have hM' := hM.mono
      have hR2 : Roots (n + 1000) rt ru ro := ⟨by omega, by omega, by omega, by omega, by omega, by omega, by omega, by omega, by omega⟩
      repeat refine AW.seq ?_
      refine AW.draw ?_
      have hF := And.intro (hD) (And.intro (hN) (And.intro (hd) (hw7)))
      repeat (first | refine wD1 ?_ | refine wD2 ?_ | refine wE1 ?_ | refine wE2 ?_ | (refine wE3 ?_; intro _) | (refine wE4 ?_; intro _) | refine wN ?_ | ((with_reducible show evIs _ (_ :: _) _ _); first | refine wQ ?_ | refine wF ?_ | refine wG ?_ | refine wT ?_ | refine wM ?_ | refine wS ?_ | refine wP ?_ | refine wJ ?_ | refine wX ?_ | refine wY ?_))
      clear hF
      repeat refine evDone ?_
      try (show AW _ _ _ _ _)
      repeat refine AW.seq ?_
      refine AW.reg ?_
      have hF := True.intro
      repeat (first | refine wD1 ?_ | refine wD2 ?_ | refine wE1 ?_ | refine wE2 ?_ | (refine wE3 ?_; intro _) | (refine wE4 ?_; intro _) | refine wN ?_ | ((with_reducible show evIs _ (_ :: _) _ _); first | refine wQ ?_ | refine wF ?_ | refine wG ?_ | refine wT ?_ | refine wM ?_ | refine wS ?_ | refine wP ?_ | refine wJ ?_ | refine wX ?_ | refine wY ?_))
      clear hF
      repeat refine evDone ?_
      try (show AW _ _ _ _ _)
      refine AW.seq (AW.seq ?_)
      repeat refine AW.seq ?_
      refine AW.reg ?_
      have hF := And.intro (hD) (hN)
      repeat (first | refine wD1 ?_ | refine wD2 ?_ | refine wE1 ?_ | refine wE2 ?_ | (refine wE3 ?_; intro _) | (refine wE4 ?_; intro _) | refine wN ?_ | ((with_reducible show evIs _ (_ :: _) _ _); first | refine wQ ?_ | refine wF ?_ | refine wG ?_ | refine wT ?_ | refine wM ?_ | refine wS ?_ | refine wP ?_ | refine wJ ?_ | refine wX ?_ | refine wY ?_))
      clear hF
      repeat refine evDone ?_
      try (show AW _ _ _ _ _)
      refine AW.block ?_
      repeat refine AW.seq ?_
      refine AW.reg ?_
      by_cases h0 : kd = 0
      · have hF := h0
        repeat (first | refine wD1 ?_ | refine wD2 ?_ | refine wE1 ?_ | refine wE2 ?_ | (refine wE3 ?_; intro _) | (refine wE4 ?_; intro _) | refine wN ?_ | ((with_reducible show evIs _ (_ :: _) _ _); first | refine wQ ?_ | refine wF ?_ | refine wG ?_ | refine wT ?_ | refine wM ?_ | refine wS ?_ | refine wP ?_ | refine wJ ?_ | refine wX ?_ | refine wY ?_))
        clear hF
        repeat refine evDone ?_
        try (show AW _ _ _ _ _)
        repeat refine AW.seq ?_
        refine AW.condT (by simp [h0]) (by simp [h0]) ?_
        have hc := f24 hM hM' (by omega) (n + 1000) rt ru ro hR2 (by omega)
        simp only [heapv, boxv] at hc
        repeat refine AW.seq ?_
        refine AW.reg ?_
        have hF := And.intro (hD) (hN)
        repeat (first | refine wD1 ?_ | refine wD2 ?_ | refine wE1 ?_ | refine wE2 ?_ | (refine wE3 ?_; intro _) | (refine wE4 ?_; intro _) | refine wN ?_ | ((with_reducible show evIs _ (_ :: _) _ _); first | refine wQ ?_ | refine wF ?_ | refine wG ?_ | refine wT ?_ | refine wM ?_ | refine wS ?_ | refine wP ?_ | refine wJ ?_ | refine wX ?_ | refine wY ?_))
        clear hF
        repeat refine evDone ?_
        try (show AW _ _ _ _ _)
        have hF := And.intro (hD) (hN)
        refine wL (hA := hc) ?_
        clear hF
        rintro _ _ _ ⟨m', rt', ru', ro', hI, hR3, rfl, rfl, rfl⟩
        unfold heapv boxv
        obtain ⟨hs1, hs2, hs3, hs4, hs5, hs6, hs7, hs8, hs9⟩ := hR3
        have hE : (rt' = 7) = False ∧ (7 = rt') = False ∧ (ru' = 7) = False ∧ (7 = ru') = False ∧ (ro' = 7) = False ∧ (7 = ro') = False ∧ (rt' = ru') = False ∧ (ru' = rt') = False ∧ (rt' = ro') = False ∧ (ro' = rt') = False ∧ (ru' = ro') = False ∧ (ro' = ru') = False := by
          refine ⟨?_, ?_, ?_, ?_, ?_, ?_, ?_, ?_, ?_, ?_, ?_, ?_⟩ <;> exact eq_false (by omega)
        have hLE : rt' < n + 1200 ∧ ru' < n + 1200 ∧ ro' < n + 1200 ∧ 7 < n + 1200 := by refine ⟨?_, ?_, ?_, ?_⟩ <;> omega
        have hI2 : Inv m' (2 * (i + 1)) := by rw [show 2 * (i + 1) = 2 * i + 1 + 1 by omega]; exact hI
        have hw : IntKind.i64.wrap ((i : Int) + 1) = (i : Int) + 1 := i64_in _ ⟨by omega, by omega⟩
        have hF := True.intro
        repeat (first | refine wD1 ?_ | refine wD2 ?_ | refine wE1 ?_ | refine wE2 ?_ | (refine wE3 ?_; intro _) | (refine wE4 ?_; intro _) | refine wN ?_ | ((with_reducible show evIs _ (_ :: _) _ _); first | refine wQ ?_ | refine wF ?_ | refine wG ?_ | refine wT ?_ | refine wM ?_ | refine wS ?_ | refine wP ?_ | refine wJ ?_ | refine wX ?_ | refine wY ?_))
        clear hF
        repeat refine evDone ?_
        try (show AW _ _ _ _ _)
        repeat refine AW.seq ?_
        refine AW.reg ?_
        have hF := True.intro
        repeat (first | refine wD1 ?_ | refine wD2 ?_ | refine wE1 ?_ | refine wE2 ?_ | (refine wE3 ?_; intro _) | (refine wE4 ?_; intro _) | refine wN ?_ | ((with_reducible show evIs _ (_ :: _) _ _); first | refine wQ ?_ | refine wF ?_ | refine wG ?_ | refine wT ?_ | refine wM ?_ | refine wS ?_ | refine wP ?_ | refine wJ ?_ | refine wX ?_ | refine wY ?_))
        clear hF
        repeat refine evDone ?_
        try (show AW _ _ _ _ _)
        repeat refine AW.seq ?_
        refine AW.condF (by simp []) (by simp []) ?_
        refine AW.skip ?_
        show AW _ _ _ _ _
        refine AW.reg ?_
        have hF := hw
        repeat (first | refine wD1 ?_ | refine wD2 ?_ | refine wE1 ?_ | refine wE2 ?_ | (refine wE3 ?_; intro _) | (refine wE4 ?_; intro _) | refine wN ?_ | ((with_reducible show evIs _ (_ :: _) _ _); first | refine wQ ?_ | refine wF ?_ | refine wG ?_ | refine wT ?_ | refine wM ?_ | refine wS ?_ | refine wP ?_ | refine wJ ?_ | refine wX ?_ | refine wY ?_))
        clear hF
        repeat refine evDone ?_
        try (show AW _ _ _ _ _)
        refine ⟨(i + 1, n + 1200, rt', ru', ro', m'), ⟨by dsimp only; omega, ⟨hs1, hs2, hs3, by dsimp only; omega, by dsimp only; omega, by dsimp only; omega, hs7, hs8, hs9⟩, by dsimp only; omega, hI2⟩, by dsimp only; omega, ?_⟩
        refine Fit.mk _ _ _ (by simp [hw, hE, hLE, hD, hN, conv2, newEmp, convs_refl, convs, conv]) (by simp [hw, hE, hLE, hD, hN, heapFit, newEmp, conv2s, conv2, convs_refl, convs, conv]) (by intro q hq; first | (simp at hq; done) | (simp at hq; omega) | (simp at hq; simp; omega))
      · have hF := h0
        repeat (first | refine wD1 ?_ | refine wD2 ?_ | refine wE1 ?_ | refine wE2 ?_ | (refine wE3 ?_; intro _) | (refine wE4 ?_; intro _) | refine wN ?_ | ((with_reducible show evIs _ (_ :: _) _ _); first | refine wQ ?_ | refine wF ?_ | refine wG ?_ | refine wT ?_ | refine wM ?_ | refine wS ?_ | refine wP ?_ | refine wJ ?_ | refine wX ?_ | refine wY ?_))
        clear hF
        repeat refine evDone ?_
        try (show AW _ _ _ _ _)
        repeat refine AW.seq ?_
        refine AW.condF (by simp [h0]) (by simp [h0]) ?_
        repeat refine AW.seq ?_
        refine AW.reg ?_
        by_cases h1 : kd = 1
        · have hF := h1
          repeat (first | refine wD1 ?_ | refine wD2 ?_ | refine wE1 ?_ | refine wE2 ?_ | (refine wE3 ?_; intro _) | (refine wE4 ?_; intro _) | refine wN ?_ | ((with_reducible show evIs _ (_ :: _) _ _); first | refine wQ ?_ | refine wF ?_ | refine wG ?_ | refine wT ?_ | refine wM ?_ | refine wS ?_ | refine wP ?_ | refine wJ ?_ | refine wX ?_ | refine wY ?_))
          clear hF
          repeat refine evDone ?_
          try (show AW _ _ _ _ _)
          repeat refine AW.seq ?_
          refine AW.condT (by simp [h1]) (by simp [h1]) ?_
          have hc := f25 hM hM' (by omega) (n + 1000) rt ru ro hR2 (by omega)
          simp only [heapv, boxv] at hc
          repeat refine AW.seq ?_
          refine AW.reg ?_
          have hF := And.intro (hD) (hN)
          repeat (first | refine wD1 ?_ | refine wD2 ?_ | refine wE1 ?_ | refine wE2 ?_ | (refine wE3 ?_; intro _) | (refine wE4 ?_; intro _) | refine wN ?_ | ((with_reducible show evIs _ (_ :: _) _ _); first | refine wQ ?_ | refine wF ?_ | refine wG ?_ | refine wT ?_ | refine wM ?_ | refine wS ?_ | refine wP ?_ | refine wJ ?_ | refine wX ?_ | refine wY ?_))
          clear hF
          repeat refine evDone ?_
          try (show AW _ _ _ _ _)
          have hF := And.intro (hD) (hN)
          refine wL (hA := hc) ?_
          clear hF
          rintro _ _ _ ⟨m', rt', ru', ro', hI, hR3, rfl, rfl, rfl⟩
          unfold heapv boxv
          obtain ⟨hs1, hs2, hs3, hs4, hs5, hs6, hs7, hs8, hs9⟩ := hR3
          have hE : (rt' = 7) = False ∧ (7 = rt') = False ∧ (ru' = 7) = False ∧ (7 = ru') = False ∧ (ro' = 7) = False ∧ (7 = ro') = False ∧ (rt' = ru') = False ∧ (ru' = rt') = False ∧ (rt' = ro') = False ∧ (ro' = rt') = False ∧ (ru' = ro') = False ∧ (ro' = ru') = False := by
            refine ⟨?_, ?_, ?_, ?_, ?_, ?_, ?_, ?_, ?_, ?_, ?_, ?_⟩ <;> exact eq_false (by omega)
          have hLE : rt' < n + 1200 ∧ ru' < n + 1200 ∧ ro' < n + 1200 ∧ 7 < n + 1200 := by refine ⟨?_, ?_, ?_, ?_⟩ <;> omega
          have hI2 : Inv m' (2 * (i + 1)) := by rw [show 2 * (i + 1) = 2 * i + 1 + 1 by omega]; exact hI
          have hw : IntKind.i64.wrap ((i : Int) + 1) = (i : Int) + 1 := i64_in _ ⟨by omega, by omega⟩
          have hF := True.intro
          repeat (first | refine wD1 ?_ | refine wD2 ?_ | refine wE1 ?_ | refine wE2 ?_ | (refine wE3 ?_; intro _) | (refine wE4 ?_; intro _) | refine wN ?_ | ((with_reducible show evIs _ (_ :: _) _ _); first | refine wQ ?_ | refine wF ?_ | refine wG ?_ | refine wT ?_ | refine wM ?_ | refine wS ?_ | refine wP ?_ | refine wJ ?_ | refine wX ?_ | refine wY ?_))
          clear hF
          repeat refine evDone ?_
          try (show AW _ _ _ _ _)
          repeat refine AW.seq ?_
          refine AW.reg ?_
          have hF := True.intro
          repeat (first | refine wD1 ?_ | refine wD2 ?_ | refine wE1 ?_ | refine wE2 ?_ | (refine wE3 ?_; intro _) | (refine wE4 ?_; intro _) | refine wN ?_ | ((with_reducible show evIs _ (_ :: _) _ _); first | refine wQ ?_ | refine wF ?_ | refine wG ?_ | refine wT ?_ | refine wM ?_ | refine wS ?_ | refine wP ?_ | refine wJ ?_ | refine wX ?_ | refine wY ?_))
          clear hF
          repeat refine evDone ?_
          try (show AW _ _ _ _ _)
          repeat refine AW.seq ?_
          refine AW.condF (by simp []) (by simp []) ?_
          refine AW.skip ?_
          show AW _ _ _ _ _
          refine AW.reg ?_
          have hF := hw
          repeat (first | refine wD1 ?_ | refine wD2 ?_ | refine wE1 ?_ | refine wE2 ?_ | (refine wE3 ?_; intro _) | (refine wE4 ?_; intro _) | refine wN ?_ | ((with_reducible show evIs _ (_ :: _) _ _); first | refine wQ ?_ | refine wF ?_ | refine wG ?_ | refine wT ?_ | refine wM ?_ | refine wS ?_ | refine wP ?_ | refine wJ ?_ | refine wX ?_ | refine wY ?_))
          clear hF
          repeat refine evDone ?_
          try (show AW _ _ _ _ _)
          refine ⟨(i + 1, n + 1200, rt', ru', ro', m'), ⟨by dsimp only; omega, ⟨hs1, hs2, hs3, by dsimp only; omega, by dsimp only; omega, by dsimp only; omega, hs7, hs8, hs9⟩, by dsimp only; omega, hI2⟩, by dsimp only; omega, ?_⟩
          refine Fit.mk _ _ _ (by simp [hw, hE, hLE, hD, hN, conv2, newEmp, convs_refl, convs, conv]) (by simp [hw, hE, hLE, hD, hN, heapFit, newEmp, conv2s, conv2, convs_refl, convs, conv]) (by intro q hq; first | (simp at hq; done) | (simp at hq; omega) | (simp at hq; simp; omega))
        · have hF := h1
          repeat (first | refine wD1 ?_ | refine wD2 ?_ | refine wE1 ?_ | refine wE2 ?_ | (refine wE3 ?_; intro _) | (refine wE4 ?_; intro _) | refine wN ?_ | ((with_reducible show evIs _ (_ :: _) _ _); first | refine wQ ?_ | refine wF ?_ | refine wG ?_ | refine wT ?_ | refine wM ?_ | refine wS ?_ | refine wP ?_ | refine wJ ?_ | refine wX ?_ | refine wY ?_))
          clear hF
          repeat refine evDone ?_
          try (show AW _ _ _ _ _)
          repeat refine AW.seq ?_
          refine AW.condF (by simp [h1]) (by simp [h1]) ?_
          have hc := f26 hM hM' (by omega) kd an aw (n + 1000) rt ru ro hR2 (by omega)
          simp only [heapv, boxv] at hc
          repeat refine AW.seq ?_
          refine AW.reg ?_
          have hF := And.intro (hD) (hN)
          repeat (first | refine wD1 ?_ | refine wD2 ?_ | refine wE1 ?_ | refine wE2 ?_ | (refine wE3 ?_; intro _) | (refine wE4 ?_; intro _) | refine wN ?_ | ((with_reducible show evIs _ (_ :: _) _ _); first | refine wQ ?_ | refine wF ?_ | refine wG ?_ | refine wT ?_ | refine wM ?_ | refine wS ?_ | refine wP ?_ | refine wJ ?_ | refine wX ?_ | refine wY ?_))
          clear hF
          repeat refine evDone ?_
          try (show AW _ _ _ _ _)
          have hF := And.intro (hD) (hN)
          refine wL (hA := hc) ?_
          clear hF
          rintro _ _ _ ⟨m', rt', ru', ro', hI, hR3, rfl, rfl, rfl⟩
          unfold heapv boxv
          obtain ⟨hs1, hs2, hs3, hs4, hs5, hs6, hs7, hs8, hs9⟩ := hR3
          have hE : (rt' = 7) = False ∧ (7 = rt') = False ∧ (ru' = 7) = False ∧ (7 = ru') = False ∧ (ro' = 7) = False ∧ (7 = ro') = False ∧ (rt' = ru') = False ∧ (ru' = rt') = False ∧ (rt' = ro') = False ∧ (ro' = rt') = False ∧ (ru' = ro') = False ∧ (ro' = ru') = False := by
            refine ⟨?_, ?_, ?_, ?_, ?_, ?_, ?_, ?_, ?_, ?_, ?_, ?_⟩ <;> exact eq_false (by omega)
          have hLE : rt' < n + 1200 ∧ ru' < n + 1200 ∧ ro' < n + 1200 ∧ 7 < n + 1200 := by refine ⟨?_, ?_, ?_, ?_⟩ <;> omega
          have hI2 : Inv m' (2 * (i + 1)) := by rw [show 2 * (i + 1) = 2 * i + 1 + 1 by omega]; exact hI
          have hw : IntKind.i64.wrap ((i : Int) + 1) = (i : Int) + 1 := i64_in _ ⟨by omega, by omega⟩
          have hF := True.intro
          repeat (first | refine wD1 ?_ | refine wD2 ?_ | refine wE1 ?_ | refine wE2 ?_ | (refine wE3 ?_; intro _) | (refine wE4 ?_; intro _) | refine wN ?_ | ((with_reducible show evIs _ (_ :: _) _ _); first | refine wQ ?_ | refine wF ?_ | refine wG ?_ | refine wT ?_ | refine wM ?_ | refine wS ?_ | refine wP ?_ | refine wJ ?_ | refine wX ?_ | refine wY ?_))
          clear hF
          repeat refine evDone ?_
          try (show AW _ _ _ _ _)
          repeat refine AW.seq ?_
          refine AW.reg ?_
          have hF := True.intro
          repeat (first | refine wD1 ?_ | refine wD2 ?_ | refine wE1 ?_ | refine wE2 ?_ | (refine wE3 ?_; intro _) | (refine wE4 ?_; intro _) | refine wN ?_ | ((with_reducible show evIs _ (_ :: _) _ _); first | refine wQ ?_ | refine wF ?_ | refine wG ?_ | refine wT ?_ | refine wM ?_ | refine wS ?_ | refine wP ?_ | refine wJ ?_ | refine wX ?_ | refine wY ?_))
          clear hF
          repeat refine evDone ?_
          try (show AW _ _ _ _ _)
          repeat refine AW.seq ?_
          refine AW.condF (by simp []) (by simp []) ?_
          refine AW.skip ?_
          show AW _ _ _ _ _
          refine AW.reg ?_
          have hF := hw
          repeat (first | refine wD1 ?_ | refine wD2 ?_ | refine wE1 ?_ | refine wE2 ?_ | (refine wE3 ?_; intro _) | (refine wE4 ?_; intro _) | refine wN ?_ | ((with_reducible show evIs _ (_ :: _) _ _); first | refine wQ ?_ | refine wF ?_ | refine wG ?_ | refine wT ?_ | refine wM ?_ | refine wS ?_ | refine wP ?_ | refine wJ ?_ | refine wX ?_ | refine wY ?_))
          clear hF
          repeat refine evDone ?_
          try (show AW _ _ _ _ _)
          refine ⟨(i + 1, n + 1200, rt', ru', ro', m'), ⟨by dsimp only; omega, ⟨hs1, hs2, hs3, by dsimp only; omega, by dsimp only; omega, by dsimp only; omega, hs7, hs8, hs9⟩, by dsimp only; omega, hI2⟩, by dsimp only; omega, ?_⟩
          refine Fit.mk _ _ _ (by simp [hw, hE, hLE, hD, hN, conv2, newEmp, convs_refl, convs, conv]) (by simp [hw, hE, hLE, hD, hN, heapFit, newEmp, conv2s, conv2, convs_refl, convs, conv]) (by intro q hq; first | (simp at hq; done) | (simp at hq; omega) | (simp at hq; simp; omega))
    · have hlt2 : ¬ (i : Int) < l.length := by omega
      have hF := And.intro (hlt) (hlt2)
      repeat (first | refine wD1 ?_ | refine wD2 ?_ | refine wE1 ?_ | refine wE2 ?_ | (refine wE3 ?_; intro _) | (refine wE4 ?_; intro _) | refine wN ?_ | ((with_reducible show evIs _ (_ :: _) _ _); first | refine wQ ?_ | refine wF ?_ | refine wG ?_ | refine wT ?_ | refine wM ?_ | refine wS ?_ | refine wP ?_ | refine wJ ?_ | refine wX ?_ | refine wY ?_))
      clear hF
      repeat refine evDone ?_
      try (show AW _ _ _ _ _)
      repeat refine AW.seq ?_
      refine AW.condF (by simp []) (by simp []) ?_
      refine AW.exit ?_
      show AW _ _ _ _ _
      have hun := h.n
      have hxs := h.nx
      have h16 := f16 m.xs m.tok m.now (by omega)
      have hfc := free_cl m.xs m.now
      repeat refine AW.seq ?_
      refine AW.draw ?_
      have hF := And.intro (hD) (hN)
      repeat (first | refine wD1 ?_ | refine wD2 ?_ | refine wE1 ?_ | refine wE2 ?_ | (refine wE3 ?_; intro _) | (refine wE4 ?_; intro _) | refine wN ?_ | ((with_reducible show evIs _ (_ :: _) _ _); first | refine wQ ?_ | refine wF ?_ | refine wG ?_ | refine wT ?_ | refine wM ?_ | refine wS ?_ | refine wP ?_ | refine wJ ?_ | refine wX ?_ | refine wY ?_))
      clear hF
      repeat refine evDone ?_
      try (show AW _ _ _ _ _)
      have hF := And.intro (hfc) (And.intro (hD) (hN))
      refine wC (hA := h16) ?_
      clear hF
      have hF := And.intro (hD) (hN)
      repeat (first | refine wD1 ?_ | refine wD2 ?_ | refine wE1 ?_ | refine wE2 ?_ | (refine wE3 ?_; intro _) | (refine wE4 ?_; intro _) | refine wN ?_ | ((with_reducible show evIs _ (_ :: _) _ _); first | refine wQ ?_ | refine wF ?_ | refine wG ?_ | refine wT ?_ | refine wM ?_ | refine wS ?_ | refine wP ?_ | refine wJ ?_ | refine wX ?_ | refine wY ?_))
      clear hF
      repeat refine evDone ?_
      try (show AW _ _ _ _ _)
      repeat refine AW.seq ?_
      refine AW.reg ?_
      have hF := And.intro (hD) (hN)
      repeat (first | refine wD1 ?_ | refine wD2 ?_ | refine wE1 ?_ | refine wE2 ?_ | (refine wE3 ?_; intro _) | (refine wE4 ?_; intro _) | refine wN ?_ | ((with_reducible show evIs _ (_ :: _) _ _); first | refine wQ ?_ | refine wF ?_ | refine wG ?_ | refine wT ?_ | refine wM ?_ | refine wS ?_ | refine wP ?_ | refine wJ ?_ | refine wX ?_ | refine wY ?_))
      clear hF
      repeat refine evDone ?_
      try (show AW _ _ _ _ _)
      repeat refine AW.seq ?_
      refine AW.block ?_
      refine AW.loop (fun j : Nat => j ≤ m.untl.length) (fun j => mkS [(3, .ptr 7 0 0), (7, .sl .fro (free m.xs m.now)), (61, .hdr ru 0 m.untl.length), (62, .int .i64 m.untl.length), (63, .int .i64 j)] [(7, ⟨6, true, [.agg [items m.xs, .int .i64 m.tok, .int .i64 m.now, .hdr rt 0 m.toks.length, .hdr ru 0 m.untl.length, .hdr ro 0 m.own.length]]⟩), (rt, ⟨1, false, ints m.toks⟩), (ru, ⟨1, false, ints m.untl⟩), (ro, ⟨1, false, ints m.own⟩)] n) (fun j => m.untl.length - j) 0 (by simp) ?_ ?_
      · refine Fit.mk _ _ _ (by simp [hD, hN, hB, conv2, newEmp, convs_refl, convs, conv]) (by simp [hD, hN, hB, heapFit, newEmp, conv2s, conv2, convs_refl, convs, conv]) (by intro q hq; first | (simp at hq; done) | (simp at hq; omega) | (simp at hq; simp; omega))
      · intro j hj
        repeat refine AW.seq ?_
        refine AW.reg ?_
        by_cases hlt : j < m.untl.length
        · have hF := hlt
          repeat (first | refine wD1 ?_ | refine wD2 ?_ | refine wE1 ?_ | refine wE2 ?_ | (refine wE3 ?_; intro _) | (refine wE4 ?_; intro _) | refine wN ?_ | ((with_reducible show evIs _ (_ :: _) _ _); first | refine wQ ?_ | refine wF ?_ | refine wG ?_ | refine wT ?_ | refine wM ?_ | refine wS ?_ | refine wP ?_ | refine wJ ?_ | refine wX ?_ | refine wY ?_))
          clear hF
          repeat refine evDone ?_
          try (show AW _ _ _ _ _)
          repeat refine AW.seq ?_
          refine AW.condT (by simp []) (by simp []) ?_
          refine AW.skip ?_
          show AW _ _ _ _ _
          refine AW.seq (AW.block ?_)
          obtain ⟨u, hu⟩ := get_of hlt
          have heu := ints_at hu
          have hw : IntKind.i64.wrap ((j : Int) + 1) = (j : Int) + 1 := i64_in _ ⟨by omega, by omega⟩
          have h28 := f28 ((j : Int) + 1) 0
          have h27 := f27 (m.xs.filter (avail · m.now)) (wt ((j : Int) + 1)) (by have := List.length_filter_le (avail · m.now) m.xs; omega)
          rw [show (m.xs.filter (avail · m.now)).map Item.tav = free m.xs m.now from rfl] at h27
          have hfr : hasT (m.xs.filter (avail · m.now)) (wt ((j : Int) + 1)) = (decide (0 ≤ u) && decide (u ≤ m.now)) := by
            have := h.free hu
            rw [← Bool.decide_and]
            simp only [hasT]
            apply decide_eq_decide.2
            rw [← this]
            simp only [List.mem_filter]
            exact ⟨fun ⟨x, a, b⟩ => ⟨x, a.1, a.2, b⟩, fun ⟨x, a, b, c⟩ => ⟨x, ⟨a, b⟩, c⟩⟩
          rw [hfr] at h27
          simp only [Task.cells, wt] at h27
          repeat refine AW.seq ?_
          refine AW.reg ?_
          have hF := And.intro (hlt) (And.intro (heu) (hD))
          repeat (first | refine wD1 ?_ | refine wD2 ?_ | refine wE1 ?_ | refine wE2 ?_ | (refine wE3 ?_; intro _) | (refine wE4 ?_; intro _) | refine wN ?_ | ((with_reducible show evIs _ (_ :: _) _ _); first | refine wQ ?_ | refine wF ?_ | refine wG ?_ | refine wT ?_ | refine wM ?_ | refine wS ?_ | refine wP ?_ | refine wJ ?_ | refine wX ?_ | refine wY ?_))
          clear hF
          repeat refine evDone ?_
          try (show AW _ _ _ _ _)
          repeat refine AW.seq ?_
          refine AW.reg ?_
          have hF := hw
          repeat (first | refine wD1 ?_ | refine wD2 ?_ | refine wE1 ?_ | refine wE2 ?_ | (refine wE3 ?_; intro _) | (refine wE4 ?_; intro _) | refine wN ?_ | ((with_reducible show evIs _ (_ :: _) _ _); first | refine wQ ?_ | refine wF ?_ | refine wG ?_ | refine wT ?_ | refine wM ?_ | refine wS ?_ | refine wP ?_ | refine wJ ?_ | refine wX ?_ | refine wY ?_))
          clear hF
          repeat refine evDone ?_
          try (show AW _ _ _ _ _)
          have hF := hw
          refine wC (hA := h28) ?_
          clear hF
          have hF := True.intro
          repeat (first | refine wD1 ?_ | refine wD2 ?_ | refine wE1 ?_ | refine wE2 ?_ | (refine wE3 ?_; intro _) | (refine wE4 ?_; intro _) | refine wN ?_ | ((with_reducible show evIs _ (_ :: _) _ _); first | refine wQ ?_ | refine wF ?_ | refine wG ?_ | refine wT ?_ | refine wM ?_ | refine wS ?_ | refine wP ?_ | refine wJ ?_ | refine wX ?_ | refine wY ?_))
          clear hF
          repeat refine evDone ?_
          try (show AW _ _ _ _ _)
          have hF := True.intro
          refine wC (hA := h27) ?_
          clear hF
          by_cases h1 : 0 ≤ u
          · by_cases h2 : u ≤ m.now
            · have hF := And.intro (h1) (And.intro (h2) (hD))
              repeat (first | refine wD1 ?_ | refine wD2 ?_ | refine wE1 ?_ | refine wE2 ?_ | (refine wE3 ?_; intro _) | (refine wE4 ?_; intro _) | refine wN ?_ | ((with_reducible show evIs _ (_ :: _) _ _); first | refine wQ ?_ | refine wF ?_ | refine wG ?_ | refine wT ?_ | refine wM ?_ | refine wS ?_ | refine wP ?_ | refine wJ ?_ | refine wX ?_ | refine wY ?_))
              clear hF
              repeat refine evDone ?_
              try (show AW _ _ _ _ _)
              repeat refine AW.seq ?_
              refine AW.condF (by simp [h1, h2]) (by simp [h1, h2]) ?_
              refine AW.skip ?_
              show AW _ _ _ _ _
              refine AW.reg ?_
              have hF := hw
              repeat (first | refine wD1 ?_ | refine wD2 ?_ | refine wE1 ?_ | refine wE2 ?_ | (refine wE3 ?_; intro _) | (refine wE4 ?_; intro _) | refine wN ?_ | ((with_reducible show evIs _ (_ :: _) _ _); first | refine wQ ?_ | refine wF ?_ | refine wG ?_ | refine wT ?_ | refine wM ?_ | refine wS ?_ | refine wP ?_ | refine wJ ?_ | refine wX ?_ | refine wY ?_))
              clear hF
              repeat refine evDone ?_
              try (show AW _ _ _ _ _)
              refine ⟨j + 1, by omega, by omega, ?_⟩
              refine Fit.mk _ _ _ (by simp [hw, hD, hB, conv2, newEmp, convs_refl, convs, conv]) (by simp [hw, hD, hB, heapFit, newEmp, conv2s, conv2, convs_refl, convs, conv]) (by intro q hq; first | (simp at hq; done) | (simp at hq; omega) | (simp at hq; simp; omega))
            · have hF := And.intro (h1) (And.intro (h2) (hD))
              repeat (first | refine wD1 ?_ | refine wD2 ?_ | refine wE1 ?_ | refine wE2 ?_ | (refine wE3 ?_; intro _) | (refine wE4 ?_; intro _) | refine wN ?_ | ((with_reducible show evIs _ (_ :: _) _ _); first | refine wQ ?_ | refine wF ?_ | refine wG ?_ | refine wT ?_ | refine wM ?_ | refine wS ?_ | refine wP ?_ | refine wJ ?_ | refine wX ?_ | refine wY ?_))
              clear hF
              repeat refine evDone ?_
              try (show AW _ _ _ _ _)
              repeat refine AW.seq ?_
              refine AW.condF (by simp [h1, h2]) (by simp [h1, h2]) ?_
              refine AW.skip ?_
              show AW _ _ _ _ _
              refine AW.reg ?_
              have hF := hw
              repeat (first | refine wD1 ?_ | refine wD2 ?_ | refine wE1 ?_ | refine wE2 ?_ | (refine wE3 ?_; intro _) | (refine wE4 ?_; intro _) | refine wN ?_ | ((with_reducible show evIs _ (_ :: _) _ _); first | refine wQ ?_ | refine wF ?_ | refine wG ?_ | refine wT ?_ | refine wM ?_ | refine wS ?_ | refine wP ?_ | refine wJ ?_ | refine wX ?_ | refine wY ?_))
              clear hF
              repeat refine evDone ?_
              try (show AW _ _ _ _ _)
              refine ⟨j + 1, by omega, by omega, ?_⟩
              refine Fit.mk _ _ _ (by simp [hw, hD, hB, conv2, newEmp, convs_refl, convs, conv]) (by simp [hw, hD, hB, heapFit, newEmp, conv2s, conv2, convs_refl, convs, conv]) (by intro q hq; first | (simp at hq; done) | (simp at hq; omega) | (simp at hq; simp; omega))
          · have hF := And.intro (h1) (hD)
            repeat (first | refine wD1 ?_ | refine wD2 ?_ | refine wE1 ?_ | refine wE2 ?_ | (refine wE3 ?_; intro _) | (refine wE4 ?_; intro _) | refine wN ?_ | ((with_reducible show evIs _ (_ :: _) _ _); first | refine wQ ?_ | refine wF ?_ | refine wG ?_ | refine wT ?_ | refine wM ?_ | refine wS ?_ | refine wP ?_ | refine wJ ?_ | refine wX ?_ | refine wY ?_))
            clear hF
            repeat refine evDone ?_
            try (show AW _ _ _ _ _)
            repeat refine AW.seq ?_
            refine AW.condF (by simp [h1]) (by simp [h1]) ?_
            refine AW.skip ?_
            show AW _ _ _ _ _
            refine AW.reg ?_
            have hF := hw
            repeat (first | refine wD1 ?_ | refine wD2 ?_ | refine wE1 ?_ | refine wE2 ?_ | (refine wE3 ?_; intro _) | (refine wE4 ?_; intro _) | refine wN ?_ | ((with_reducible show evIs _ (_ :: _) _ _); first | refine wQ ?_ | refine wF ?_ | refine wG ?_ | refine wT ?_ | refine wM ?_ | refine wS ?_ | refine wP ?_ | refine wJ ?_ | refine wX ?_ | refine wY ?_))
            clear hF
            repeat refine evDone ?_
            try (show AW _ _ _ _ _)
            refine ⟨j + 1, by omega, by omega, ?_⟩
            refine Fit.mk _ _ _ (by simp [hw, hD, hB, conv2, newEmp, convs_refl, convs, conv]) (by simp [hw, hD, hB, heapFit, newEmp, conv2s, conv2, convs_refl, convs, conv]) (by intro q hq; first | (simp at hq; done) | (simp at hq; omega) | (simp at hq; simp; omega))
        · have hlt2 : ¬ (j : Int) < m.untl.length := by omega
          have hF := And.intro (hlt) (hlt2)
          repeat (first | refine wD1 ?_ | refine wD2 ?_ | refine wE1 ?_ | refine wE2 ?_ | (refine wE3 ?_; intro _) | (refine wE4 ?_; intro _) | refine wN ?_ | ((with_reducible show evIs _ (_ :: _) _ _); first | refine wQ ?_ | refine wF ?_ | refine wG ?_ | refine wT ?_ | refine wM ?_ | refine wS ?_ | refine wP ?_ | refine wJ ?_ | refine wX ?_ | refine wY ?_))
          clear hF
          repeat refine evDone ?_
          try (show AW _ _ _ _ _)
          repeat refine AW.seq ?_
          refine AW.condF (by simp []) (by simp []) ?_
          refine AW.exit ?_
          show AW _ _ _ _ _
          repeat refine AW.seq ?_
          refine AW.reg ?_
          have hF := True.intro
          repeat (first | refine wD1 ?_ | refine wD2 ?_ | refine wE1 ?_ | refine wE2 ?_ | (refine wE3 ?_; intro _) | (refine wE4 ?_; intro _) | refine wN ?_ | ((with_reducible show evIs _ (_ :: _) _ _); first | refine wQ ?_ | refine wF ?_ | refine wG ?_ | refine wT ?_ | refine wM ?_ | refine wS ?_ | refine wP ?_ | refine wJ ?_ | refine wX ?_ | refine wY ?_))
          clear hF
          repeat refine evDone ?_
          try (show AW _ _ _ _ _)
          have hF := True.intro
          refine wC (hA := works) ?_
          clear hF
          have hF := True.intro
          repeat (first | refine wD1 ?_ | refine wD2 ?_ | refine wE1 ?_ | refine wE2 ?_ | (refine wE3 ?_; intro _) | (refine wE4 ?_; intro _) | refine wN ?_ | ((with_reducible show evIs _ (_ :: _) _ _); first | refine wQ ?_ | refine wF ?_ | refine wG ?_ | refine wT ?_ | refine wM ?_ | refine wS ?_ | refine wP ?_ | refine wJ ?_ | refine wX ?_ | refine wY ?_))
          clear hF
          repeat refine evDone ?_
          try (show AW _ _ _ _ _)
          refine AW.ret (retI rfl ?_)
          simp [a6_res, resOk, resP, resV, ARes.op, R2s, R2, R1s, R1, closeOk, closeV]
end Go.Proofs.Ytloccbmiojhabaa

set_option linter.unusedSimpArgs false
set_option linter.unusedVariables false
namespace Go.Proofs.Ytloccbmiojhabaa
open Go Go.Amb Go.RowKit
section
variable {H : Type} {enc : TypeId × Value → H} {w : World} {n : Nat} {cs : List Value} {x : DataW H × List MemPlace}
theorem tell_act (h : DataW.trod enc Try.prog w 0 (fun _ => true) true n 65 cs = some x) : ∃ u : Act, Tell w (cellsOf (Act.av u)) cs ∧ (cellsOf (Act.av u)).length = Try.prog.cellsOf 65 ∧ True := by
  obtain ⟨css, ds, m, rfl, hx, rfl, he⟩ := tell_fields Try.underlying65 (by kernel_rfl) h
  obtain ⟨c0, css, d0, ds, rfl, rfl, ⟨p0, h0⟩, he⟩ := each_cons he
  obtain ⟨c1, css, d1, ds, rfl, rfl, ⟨p1, h1⟩, he⟩ := each_cons he
  obtain ⟨c2, css, d2, ds, rfl, rfl, ⟨p2, h2⟩, he⟩ := each_cons he
  obtain ⟨rfl, rfl⟩ := each_nil he
  obtain ⟨i0, t0, _, _⟩ := tell_int Try.underlying3 h0
  obtain ⟨i1, t1, _, _⟩ := tell_int Try.underlying3 h1
  obtain ⟨i2, t2, _, _⟩ := tell_int Try.underlying3 h2
  refine ⟨⟨i0, i1, i2⟩, ?_, by simp [Act.av]; kernel_rfl, trivial⟩
  have := t0.app (t1.app (t2))
  simpa [Act.av] using this

theorem tell_acts {v : Value} {d : DataW H} {p : List MemPlace} (h : DataW.Trod enc Try.prog w 0 (fun _ => true) true 59 v d p) : ∃ l : List Act, Tell w [.sl .fro (l.map Act.av)] v.cells.toList ∧ l.length ≤ 9223372036854775807 := by
  obtain ⟨n, h⟩ := h
  obtain ⟨l, a, hl, _⟩ := tell_slice Try.underlying59 (by decide +kernel) Act.av (fun _ _ => True) h (fun m _ cs x hx => tell_act hx)
  exact ⟨l, a, by simpa [maxLen] using hl⟩
end
end Go.Proofs.Ytloccbmiojhabaa
