/- Contracts of chapter 13's functions, ninth part: a stack is cut, the next compensation. -/
import Derived.Test.YtafkaofaioleiaaS1

set_option linter.unusedSimpArgs false
set_option linter.unusedVariables false
set_option maxHeartbeats 8000000
namespace Go.Proofs.Ytafkaofaioleiaa
open Go Go.Amb Go.IntWalk

def cutS (stack : List Val) (h : Int) : List Val := if 0 ≤ h ∧ h < stack.length then stack.take h.toNat else stack
theorem f35 (N R S M k j ns : Nat) (es : List AV) (ms : List Mark) (bM : Bool) (x : Mark) (fn pc : Int) (stack : List Val) (hk : es.length = k + 1) (he : elemAt es k = .agg [.int .i64 fn, .int .i64 pc, .hdr S 0 ns, .sl .fro (avs stack), .hdr M 0 (j + 1)]) (hm : ms.length = j + 1) (hx : ms[j]? = some x) (hl : k < 1000000) (hj : j < 1000000000000) (hR : R < N) (hM : M < N) (hRM : R ≠ M) :
    BCall Try.prog 35 [(R, ⟨5, true, es⟩), (M, ⟨10, bM, ms.map Mark.av⟩)] N [.ptr R k 0, .ptr M j 0] (fun H1 n' v => H1 = [(R, ⟨5, true, es.set k (.agg [.int .i64 fn, .int .i64 pc, .hdr S 0 ns, .sl .fro (avs (cutS stack x.height)), .hdr M 0 (j + 1)])⟩), (M, ⟨10, bM, ms.map Mark.av⟩)] ∧ n' = N ∧ v = .tup []) := by
  have hem := elem_map (f := Mark.av) hx
  obtain ⟨kind, target, slot, height, us, tk, tn, tt, ti, ts⟩ := x
  simp only [Mark.av] at hem
  have h5 : (R = M) = False ∧ (M = R) = False := ⟨eq_false hRM, eq_false fun e => hRM e.symm⟩
  have h3 : k < k + 1 := by omega
  have h4 : j < j + 1 := by omega
  have hset : es.set k (.agg [.int .i64 fn, .int .i64 pc, .hdr S 0 ns, .sl .fro (avs stack), .hdr M 0 (j + 1)]) = es := by
    apply List.ext_getElem?
    intro q
    rw [List.getElem?_set]
    split
    · rename_i e
      subst e
      rw [if_pos (by omega), ← he]
      unfold elemAt
      rw [List.getD_eq_getElem?_getD, List.getElem?_eq_getElem (by omega)]
      rfl
    · rfl
  refine bcall_coded a35_ok (by simp) ?_
  repeat refine AW.seq ?_
  by_cases h1 : 0 ≤ height
  · by_cases h2 : height < stack.length
    · have hc : cutS stack height = stack.take height.toNat := by rw [cutS, if_pos ⟨h1, h2⟩]
      have h6 : height ≤ stack.length := by omega
      have h7 : height.toNat ≤ stack.length := by omega
      have hal := av_len stack
      have htk : (avs stack).take height.toNat = avs (stack.take height.toNat) := by simp [vals_map, List.map_take]
      refine AW.draw ?_
      have hF := And.intro (hem) (And.intro (he) (And.intro (h1) (And.intro (h2) (And.intro (h3) (And.intro (h4) (And.intro (hk) (And.intro (hm) (h5))))))))
      repeat (first | refine wD1 ?_ | refine wD2 ?_ | refine wE1 ?_ | refine wE2 ?_ | (refine wE3 ?_; intro _) | (refine wE4 ?_; intro _) | refine wN ?_ | ((with_reducible show evIs _ (_ :: _) _ _); first | refine wQ ?_ | refine wF ?_ | refine wG ?_ | refine wT ?_ | refine wM ?_ | refine wS ?_ | refine wP ?_ | refine wJ ?_ | refine wX ?_ | refine wY ?_))
      clear hF
      repeat refine evDone ?_
      try (show AW _ _ _ _ _)
      repeat refine AW.seq ?_
      refine AW.condT (by simp []) (by simp []) ?_
      refine AW.draw ?_
      have hF := And.intro (hem) (And.intro (he) (And.intro (h1) (And.intro (h2) (And.intro (h3) (And.intro (h4) (And.intro (h6) (And.intro (h7) (And.intro (htk) (And.intro (eq_true hal) (And.intro (hk) (And.intro (hm) (h5))))))))))))
      repeat (first | refine wD1 ?_ | refine wD2 ?_ | refine wE1 ?_ | refine wE2 ?_ | (refine wE3 ?_; intro _) | (refine wE4 ?_; intro _) | refine wN ?_ | ((with_reducible show evIs _ (_ :: _) _ _); first | refine wQ ?_ | refine wF ?_ | refine wG ?_ | refine wT ?_ | refine wM ?_ | refine wS ?_ | refine wP ?_ | refine wJ ?_ | refine wX ?_ | refine wY ?_))
      clear hF
      repeat refine evDone ?_
      try (show AW _ _ _ _ _)
      refine ⟨by simp [resP, a35_res, ARes.op], [(R, ⟨5, true, es.set k (.agg [.int .i64 fn, .int .i64 pc, .hdr S 0 ns, .sl .fro (avs (stack.take height.toNat)), .hdr M 0 (j + 1)])⟩), (M, ⟨10, bM, ms.map Mark.av⟩)], N, [], ⟨by rw [hc], rfl, rfl⟩, by omega, by simp [h5], rfl, by simp, ?_⟩
      simp only [resV, a35_res, List.map_cons, List.map_nil, ARes.op]
      refine Fit.mk _ _ _ (by simp [hc, hR, hM, h5, htk, conv2, newEmp, convs_refl, convs, conv]) (by simp [hc, hR, hM, h5, htk, heapFit, newEmp, conv2s, conv2, convs_refl, convs, conv]) (by intro q hq; first | (simp at hq; done) | (simp at hq; omega) | (simp at hq; simp; omega))
    · have hc : cutS stack height = stack := by rw [cutS, if_neg (by omega)]
      rw [hc, hset]
      refine AW.draw ?_
      have hF := And.intro (hem) (And.intro (he) (And.intro (h1) (And.intro (h2) (And.intro (h3) (And.intro (h4) (And.intro (hk) (And.intro (hm) (h5))))))))
      repeat (first | refine wD1 ?_ | refine wD2 ?_ | refine wE1 ?_ | refine wE2 ?_ | (refine wE3 ?_; intro _) | (refine wE4 ?_; intro _) | refine wN ?_ | ((with_reducible show evIs _ (_ :: _) _ _); first | refine wQ ?_ | refine wF ?_ | refine wG ?_ | refine wT ?_ | refine wM ?_ | refine wS ?_ | refine wP ?_ | refine wJ ?_ | refine wX ?_ | refine wY ?_))
      clear hF
      repeat refine evDone ?_
      try (show AW _ _ _ _ _)
      repeat refine AW.seq ?_
      refine AW.condF (by simp []) (by simp []) ?_
      refine AW.skip ?_
      refine ⟨by simp [resP, a35_res, ARes.op], [(R, ⟨5, true, es⟩), (M, ⟨10, bM, ms.map Mark.av⟩)], N, [], ⟨rfl, rfl, rfl⟩, by omega, by simp [h5], rfl, by simp, ?_⟩
      simp only [resV, a35_res, List.map_cons, List.map_nil, ARes.op]
      refine Fit.mk _ _ _ (by simp [hR, hM, h5, conv2, newEmp, convs_refl, convs, conv]) (by simp [hR, hM, h5, heapFit, newEmp, conv2s, conv2, convs_refl, convs, conv]) (by intro q hq; first | (simp at hq; done) | (simp at hq; omega) | (simp at hq; simp; omega))
  · have hc : cutS stack height = stack := by rw [cutS, if_neg (by omega)]
    rw [hc, hset]
    refine AW.draw ?_
    have hF := And.intro (hem) (And.intro (he) (And.intro (h1) (And.intro (h3) (And.intro (h4) (And.intro (hk) (And.intro (hm) (h5)))))))
    repeat (first | refine wD1 ?_ | refine wD2 ?_ | refine wE1 ?_ | refine wE2 ?_ | (refine wE3 ?_; intro _) | (refine wE4 ?_; intro _) | refine wN ?_ | ((with_reducible show evIs _ (_ :: _) _ _); first | refine wQ ?_ | refine wF ?_ | refine wG ?_ | refine wT ?_ | refine wM ?_ | refine wS ?_ | refine wP ?_ | refine wJ ?_ | refine wX ?_ | refine wY ?_))
    clear hF
    repeat refine evDone ?_
    try (show AW _ _ _ _ _)
    repeat refine AW.seq ?_
    refine AW.condF (by simp []) (by simp []) ?_
    refine AW.skip ?_
    refine ⟨by simp [resP, a35_res, ARes.op], [(R, ⟨5, true, es⟩), (M, ⟨10, bM, ms.map Mark.av⟩)], N, [], ⟨rfl, rfl, rfl⟩, by omega, by simp [h5], rfl, by simp, ?_⟩
    simp only [resV, a35_res, List.map_cons, List.map_nil, ARes.op]
    refine Fit.mk _ _ _ (by simp [hR, hM, h5, conv2, newEmp, convs_refl, convs, conv]) (by simp [hR, hM, h5, heapFit, newEmp, conv2s, conv2, convs_refl, convs, conv]) (by intro q hq; first | (simp at hq; done) | (simp at hq; omega) | (simp at hq; simp; omega))
theorem f38_other (N R S M k j ns : Nat) (es : List AV) (ms : List Mark) (x : Mark) (fn pc : Int) (stack : List Val) (hk : es.length = k + 1) (he : elemAt es k = .agg [.int .i64 fn, .int .i64 pc, .hdr S 0 ns, .sl .fro (avs stack), .hdr M 0 (j + 1)]) (hm : ms.length = j + 1) (hx : ms[j]? = some x) (hl : k < 1000000) (hj : j < 1000000000000) (hR : R < N) (hM : M < N) (hRM : R ≠ M) (hkd : ¬ x.kind = 3) :
    BCall Try.prog 38 [(R, ⟨5, true, es⟩), (M, ⟨10, false, ms.map Mark.av⟩)] N [.hdr R 0 (k + 1)] (fun H1 n' v => H1 = [(R, ⟨5, true, es⟩), (M, ⟨10, false, ms.map Mark.av⟩)] ∧ n' = N + 200 ∧ v = .tup [.agg [.int .i64 (-1), .sl .fro []], .agg [.int .i64 0, .int .i64 0, .str ⟨#[]⟩, .sl .fro [], .sl .fro []], .bool false]) := by
  have hem := elem_map (f := Mark.av) hx
  obtain ⟨kind, target, slot, height, us, tk, tn, tt, ti, ts⟩ := x
  simp only [Mark.av] at hem
  have h5 : (R = M) = False ∧ (M = R) = False := ⟨eq_false hRM, eq_false fun e => hRM e.symm⟩
  have hN : (∀ q, (R = N + q) = False) ∧ (∀ q, (N + q = R) = False) ∧ (∀ q, (M = N + q) = False) ∧ (∀ q, (N + q = M) = False) ∧ (R = N) = False ∧ (N = R) = False ∧ (M = N) = False ∧ (N = M) = False ∧ (∀ q, (N + q < N) = False) := by
    refine ⟨?_, ?_, ?_, ?_, ?_, ?_, ?_, ?_, ?_⟩ <;> first | exact eq_false (by omega) | exact fun q => eq_false (by omega)
  have hL : (∀ q, R < N + q) ∧ (∀ q, M < N + q) := ⟨fun q => by omega, fun q => by omega⟩
  have h34 := f34_some (N + 100) R S M k j ns es (ms.map Mark.av) false fn pc stack hk he (by simpa using hm) hl hj (by omega) (by omega) hRM
  have h4 : j < j + 1 := by omega
  refine bcall_coded a38_ok (by simp) ?_
  repeat refine AW.seq ?_
  refine AW.reg ?_
  have hF := hN
  repeat (first | refine wD1 ?_ | refine wD2 ?_ | refine wE1 ?_ | refine wE2 ?_ | (refine wE3 ?_; intro _) | (refine wE4 ?_; intro _) | refine wN ?_ | ((with_reducible show evIs _ (_ :: _) _ _); first | refine wQ ?_ | refine wF ?_ | refine wG ?_ | refine wT ?_ | refine wM ?_ | refine wS ?_ | refine wP ?_ | refine wJ ?_ | refine wX ?_ | refine wY ?_))
  clear hF
  repeat refine evDone ?_
  try (show AW _ _ _ _ _)
  repeat refine AW.seq ?_
  refine AW.reg ?_
  have hF := hN
  repeat (first | refine wD1 ?_ | refine wD2 ?_ | refine wE1 ?_ | refine wE2 ?_ | (refine wE3 ?_; intro _) | (refine wE4 ?_; intro _) | refine wN ?_ | ((with_reducible show evIs _ (_ :: _) _ _); first | refine wQ ?_ | refine wF ?_ | refine wG ?_ | refine wT ?_ | refine wM ?_ | refine wS ?_ | refine wP ?_ | refine wJ ?_ | refine wX ?_ | refine wY ?_))
  clear hF
  repeat refine evDone ?_
  try (show AW _ _ _ _ _)
  have hF := And.intro (h5) (hN)
  refine wL (hA := h34) ?_
  clear hF
  rintro _ _ _ ⟨rfl, rfl, rfl⟩
  have hF := And.intro (h5) (hN)
  repeat (first | refine wD1 ?_ | refine wD2 ?_ | refine wE1 ?_ | refine wE2 ?_ | (refine wE3 ?_; intro _) | (refine wE4 ?_; intro _) | refine wN ?_ | ((with_reducible show evIs _ (_ :: _) _ _); first | refine wQ ?_ | refine wF ?_ | refine wG ?_ | refine wT ?_ | refine wM ?_ | refine wS ?_ | refine wP ?_ | refine wJ ?_ | refine wX ?_ | refine wY ?_))
  clear hF
  repeat refine evDone ?_
  try (show AW _ _ _ _ _)
  dsimp only at hkd
  repeat refine AW.seq ?_
  refine AW.reg ?_
  have hF := And.intro (hem) (And.intro (hkd) (And.intro (h4) (And.intro (hm) (And.intro (h5) (hN)))))
  repeat (first | refine wD1 ?_ | refine wD2 ?_ | refine wE1 ?_ | refine wE2 ?_ | (refine wE3 ?_; intro _) | (refine wE4 ?_; intro _) | refine wN ?_ | ((with_reducible show evIs _ (_ :: _) _ _); first | refine wQ ?_ | refine wF ?_ | refine wG ?_ | refine wT ?_ | refine wM ?_ | refine wS ?_ | refine wP ?_ | refine wJ ?_ | refine wX ?_ | refine wY ?_))
  clear hF
  repeat refine evDone ?_
  try (show AW _ _ _ _ _)
  repeat refine AW.seq ?_
  refine AW.condT (by simp [hkd]) (by simp [hkd]) ?_
  repeat refine AW.seq ?_
  refine AW.reg ?_
  have hF := hN
  repeat (first | refine wD1 ?_ | refine wD2 ?_ | refine wE1 ?_ | refine wE2 ?_ | (refine wE3 ?_; intro _) | (refine wE4 ?_; intro _) | refine wN ?_ | ((with_reducible show evIs _ (_ :: _) _ _); first | refine wQ ?_ | refine wF ?_ | refine wG ?_ | refine wT ?_ | refine wM ?_ | refine wS ?_ | refine wP ?_ | refine wJ ?_ | refine wX ?_ | refine wY ?_))
  clear hF
  repeat refine evDone ?_
  try (show AW _ _ _ _ _)
  have hF := hN
  refine wC (hA := f37) ?_
  clear hF
  have hF := hN
  repeat (first | refine wD1 ?_ | refine wD2 ?_ | refine wE1 ?_ | refine wE2 ?_ | (refine wE3 ?_; intro _) | (refine wE4 ?_; intro _) | refine wN ?_ | ((with_reducible show evIs _ (_ :: _) _ _); first | refine wQ ?_ | refine wF ?_ | refine wG ?_ | refine wT ?_ | refine wM ?_ | refine wS ?_ | refine wP ?_ | refine wJ ?_ | refine wX ?_ | refine wY ?_))
  clear hF
  repeat refine evDone ?_
  try (show AW _ _ _ _ _)
  refine AW.ret ⟨by simp [resP, a38_res, ARes.op, h5, hN], [(R, ⟨5, true, es⟩), (M, ⟨10, false, ms.map Mark.av⟩)], N + 200, [.agg [.int .i64 (-1), .sl .fro []], .agg [.int .i64 0, .int .i64 0, .str ⟨#[]⟩, .sl .fro [], .sl .fro []], .bool false], ⟨rfl, rfl, rfl⟩, by omega, by simp [h5], rfl, by simp, ?_⟩
  simp only [resV, a38_res, List.map_cons, List.map_nil, ARes.op]
  refine Fit.mk _ _ _ (by simp [h5, hN, hL, conv2, newEmp, convs_refl, convs, conv]) (by simp [h5, hN, hL, heapFit, newEmp, conv2s, conv2, convs_refl, convs, conv]) (by intro q hq; first | (simp at hq; done) | (simp at hq; omega) | (simp at hq; simp; omega))
theorem f38_nil (N R : Nat) (hR : R < N) :
    BCall Try.prog 38 [] N [.hdr R 0 0] (fun H1 n' v => H1 = [] ∧ n' = N + 200 ∧ v = .tup [.agg [.int .i64 (-1), .sl .fro []], .agg [.int .i64 0, .int .i64 0, .str ⟨#[]⟩, .sl .fro [], .sl .fro []], .bool false]) := by
  have hN : (∀ q, (R = N + q) = False) ∧ (∀ q, (N + q = R) = False) ∧ (R = N) = False ∧ (N = R) = False ∧ (∀ q, (N + q < N) = False) := by
    refine ⟨?_, ?_, ?_, ?_, ?_⟩ <;> first | exact eq_false (by omega) | exact fun q => eq_false (by omega)
  have h34 := f34_nil (N + 100) R
  refine bcall_coded a38_ok (by simp) ?_
  repeat refine AW.seq ?_
  refine AW.reg ?_
  have hF := hN
  repeat (first | refine wD1 ?_ | refine wD2 ?_ | refine wE1 ?_ | refine wE2 ?_ | (refine wE3 ?_; intro _) | (refine wE4 ?_; intro _) | refine wN ?_ | ((with_reducible show evIs _ (_ :: _) _ _); first | refine wQ ?_ | refine wF ?_ | refine wG ?_ | refine wT ?_ | refine wM ?_ | refine wS ?_ | refine wP ?_ | refine wJ ?_ | refine wX ?_ | refine wY ?_))
  clear hF
  repeat refine evDone ?_
  try (show AW _ _ _ _ _)
  repeat refine AW.seq ?_
  refine AW.reg ?_
  have hF := hN
  repeat (first | refine wD1 ?_ | refine wD2 ?_ | refine wE1 ?_ | refine wE2 ?_ | (refine wE3 ?_; intro _) | (refine wE4 ?_; intro _) | refine wN ?_ | ((with_reducible show evIs _ (_ :: _) _ _); first | refine wQ ?_ | refine wF ?_ | refine wG ?_ | refine wT ?_ | refine wM ?_ | refine wS ?_ | refine wP ?_ | refine wJ ?_ | refine wX ?_ | refine wY ?_))
  clear hF
  repeat refine evDone ?_
  try (show AW _ _ _ _ _)
  have hF := hN
  refine wL (hA := h34) ?_
  clear hF
  rintro _ _ _ ⟨rfl, rfl, rfl⟩
  have hF := hN
  repeat (first | refine wD1 ?_ | refine wD2 ?_ | refine wE1 ?_ | refine wE2 ?_ | (refine wE3 ?_; intro _) | (refine wE4 ?_; intro _) | refine wN ?_ | ((with_reducible show evIs _ (_ :: _) _ _); first | refine wQ ?_ | refine wF ?_ | refine wG ?_ | refine wT ?_ | refine wM ?_ | refine wS ?_ | refine wP ?_ | refine wJ ?_ | refine wX ?_ | refine wY ?_))
  clear hF
  repeat refine evDone ?_
  try (show AW _ _ _ _ _)
  repeat refine AW.seq ?_
  refine AW.reg ?_
  have hF := hN
  repeat (first | refine wD1 ?_ | refine wD2 ?_ | refine wE1 ?_ | refine wE2 ?_ | (refine wE3 ?_; intro _) | (refine wE4 ?_; intro _) | refine wN ?_ | ((with_reducible show evIs _ (_ :: _) _ _); first | refine wQ ?_ | refine wF ?_ | refine wG ?_ | refine wT ?_ | refine wM ?_ | refine wS ?_ | refine wP ?_ | refine wJ ?_ | refine wX ?_ | refine wY ?_))
  clear hF
  repeat refine evDone ?_
  try (show AW _ _ _ _ _)
  repeat refine AW.seq ?_
  refine AW.condT (by simp []) (by simp []) ?_
  repeat refine AW.seq ?_
  refine AW.reg ?_
  have hF := hN
  repeat (first | refine wD1 ?_ | refine wD2 ?_ | refine wE1 ?_ | refine wE2 ?_ | (refine wE3 ?_; intro _) | (refine wE4 ?_; intro _) | refine wN ?_ | ((with_reducible show evIs _ (_ :: _) _ _); first | refine wQ ?_ | refine wF ?_ | refine wG ?_ | refine wT ?_ | refine wM ?_ | refine wS ?_ | refine wP ?_ | refine wJ ?_ | refine wX ?_ | refine wY ?_))
  clear hF
  repeat refine evDone ?_
  try (show AW _ _ _ _ _)
  have hF := hN
  refine wC (hA := f37) ?_
  clear hF
  have hF := hN
  repeat (first | refine wD1 ?_ | refine wD2 ?_ | refine wE1 ?_ | refine wE2 ?_ | (refine wE3 ?_; intro _) | (refine wE4 ?_; intro _) | refine wN ?_ | ((with_reducible show evIs _ (_ :: _) _ _); first | refine wQ ?_ | refine wF ?_ | refine wG ?_ | refine wT ?_ | refine wM ?_ | refine wS ?_ | refine wP ?_ | refine wJ ?_ | refine wX ?_ | refine wY ?_))
  clear hF
  repeat refine evDone ?_
  try (show AW _ _ _ _ _)
  refine AW.ret ⟨by simp [resP, a38_res, ARes.op, hN], [], N + 200, [.agg [.int .i64 (-1), .sl .fro []], .agg [.int .i64 0, .int .i64 0, .str ⟨#[]⟩, .sl .fro [], .sl .fro []], .bool false], ⟨rfl, rfl, rfl⟩, by omega, by simp, rfl, by simp, ?_⟩
  simp only [resV, a38_res, List.map_cons, List.map_nil, ARes.op]
  refine Fit.mk _ _ _ (by simp [hN, conv2, newEmp, convs_refl, convs, conv]) (by simp [hN, heapFit, newEmp, conv2s, conv2, convs_refl, convs, conv]) (by intro q hq; first | (simp at hq; done) | (simp at hq; omega) | (simp at hq; simp; omega))
theorem f38_none (N R S M k ns : Nat) (es : List AV) (fn pc : Int) (stack : List Val) (hk : es.length = k + 1) (he : elemAt es k = .agg [.int .i64 fn, .int .i64 pc, .hdr S 0 ns, .sl .fro (avs stack), .hdr M 0 0]) (hl : k < 1000000) (hR : R < N) :
    BCall Try.prog 38 [(R, ⟨5, true, es⟩)] N [.hdr R 0 (k + 1)] (fun H1 n' v => H1 = [(R, ⟨5, true, es⟩)] ∧ n' = N + 200 ∧ v = .tup [.agg [.int .i64 (-1), .sl .fro []], .agg [.int .i64 0, .int .i64 0, .str ⟨#[]⟩, .sl .fro [], .sl .fro []], .bool false]) := by
  have hN : (∀ q, (R = N + q) = False) ∧ (∀ q, (N + q = R) = False) ∧ (R = N) = False ∧ (N = R) = False ∧ (∀ q, (N + q < N) = False) := by
    refine ⟨?_, ?_, ?_, ?_, ?_⟩ <;> first | exact eq_false (by omega) | exact fun q => eq_false (by omega)
  have hL : (∀ q, R < N + q) := fun q => by omega
  have h34 := f34_none (N + 100) R S M k ns es fn pc stack hk he hl (by omega)
  refine bcall_coded a38_ok (by simp) ?_
  repeat refine AW.seq ?_
  refine AW.reg ?_
  have hF := hN
  repeat (first | refine wD1 ?_ | refine wD2 ?_ | refine wE1 ?_ | refine wE2 ?_ | (refine wE3 ?_; intro _) | (refine wE4 ?_; intro _) | refine wN ?_ | ((with_reducible show evIs _ (_ :: _) _ _); first | refine wQ ?_ | refine wF ?_ | refine wG ?_ | refine wT ?_ | refine wM ?_ | refine wS ?_ | refine wP ?_ | refine wJ ?_ | refine wX ?_ | refine wY ?_))
  clear hF
  repeat refine evDone ?_
  try (show AW _ _ _ _ _)
  repeat refine AW.seq ?_
  refine AW.reg ?_
  have hF := hN
  repeat (first | refine wD1 ?_ | refine wD2 ?_ | refine wE1 ?_ | refine wE2 ?_ | (refine wE3 ?_; intro _) | (refine wE4 ?_; intro _) | refine wN ?_ | ((with_reducible show evIs _ (_ :: _) _ _); first | refine wQ ?_ | refine wF ?_ | refine wG ?_ | refine wT ?_ | refine wM ?_ | refine wS ?_ | refine wP ?_ | refine wJ ?_ | refine wX ?_ | refine wY ?_))
  clear hF
  repeat refine evDone ?_
  try (show AW _ _ _ _ _)
  have hF := hN
  refine wL (hA := h34) ?_
  clear hF
  rintro _ _ _ ⟨rfl, rfl, rfl⟩
  have hF := hN
  repeat (first | refine wD1 ?_ | refine wD2 ?_ | refine wE1 ?_ | refine wE2 ?_ | (refine wE3 ?_; intro _) | (refine wE4 ?_; intro _) | refine wN ?_ | ((with_reducible show evIs _ (_ :: _) _ _); first | refine wQ ?_ | refine wF ?_ | refine wG ?_ | refine wT ?_ | refine wM ?_ | refine wS ?_ | refine wP ?_ | refine wJ ?_ | refine wX ?_ | refine wY ?_))
  clear hF
  repeat refine evDone ?_
  try (show AW _ _ _ _ _)
  repeat refine AW.seq ?_
  refine AW.reg ?_
  have hF := hN
  repeat (first | refine wD1 ?_ | refine wD2 ?_ | refine wE1 ?_ | refine wE2 ?_ | (refine wE3 ?_; intro _) | (refine wE4 ?_; intro _) | refine wN ?_ | ((with_reducible show evIs _ (_ :: _) _ _); first | refine wQ ?_ | refine wF ?_ | refine wG ?_ | refine wT ?_ | refine wM ?_ | refine wS ?_ | refine wP ?_ | refine wJ ?_ | refine wX ?_ | refine wY ?_))
  clear hF
  repeat refine evDone ?_
  try (show AW _ _ _ _ _)
  repeat refine AW.seq ?_
  refine AW.condT (by simp []) (by simp []) ?_
  repeat refine AW.seq ?_
  refine AW.reg ?_
  have hF := hN
  repeat (first | refine wD1 ?_ | refine wD2 ?_ | refine wE1 ?_ | refine wE2 ?_ | (refine wE3 ?_; intro _) | (refine wE4 ?_; intro _) | refine wN ?_ | ((with_reducible show evIs _ (_ :: _) _ _); first | refine wQ ?_ | refine wF ?_ | refine wG ?_ | refine wT ?_ | refine wM ?_ | refine wS ?_ | refine wP ?_ | refine wJ ?_ | refine wX ?_ | refine wY ?_))
  clear hF
  repeat refine evDone ?_
  try (show AW _ _ _ _ _)
  have hF := hN
  refine wC (hA := f37) ?_
  clear hF
  have hF := hN
  repeat (first | refine wD1 ?_ | refine wD2 ?_ | refine wE1 ?_ | refine wE2 ?_ | (refine wE3 ?_; intro _) | (refine wE4 ?_; intro _) | refine wN ?_ | ((with_reducible show evIs _ (_ :: _) _ _); first | refine wQ ?_ | refine wF ?_ | refine wG ?_ | refine wT ?_ | refine wM ?_ | refine wS ?_ | refine wP ?_ | refine wJ ?_ | refine wX ?_ | refine wY ?_))
  clear hF
  repeat refine evDone ?_
  try (show AW _ _ _ _ _)
  refine AW.ret ⟨by simp [resP, a38_res, ARes.op, hN], [(R, ⟨5, true, es⟩)], N + 200, [.agg [.int .i64 (-1), .sl .fro []], .agg [.int .i64 0, .int .i64 0, .str ⟨#[]⟩, .sl .fro [], .sl .fro []], .bool false], ⟨rfl, rfl, rfl⟩, by omega, by simp, rfl, by simp, ?_⟩
  simp only [resV, a38_res, List.map_cons, List.map_nil, ARes.op]
  refine Fit.mk _ _ _ (by simp [hN, hL, conv2, newEmp, convs_refl, convs, conv]) (by simp [hN, hL, heapFit, newEmp, conv2s, conv2, convs_refl, convs, conv]) (by intro q hq; first | (simp at hq; done) | (simp at hq; omega) | (simp at hq; simp; omega))
theorem f38_undo (N R S M k j ns : Nat) (es : List AV) (ms : List Mark) (x : Mark) (fn pc : Int) (stack : List Val) (hk : es.length = k + 1) (he : elemAt es k = .agg [.int .i64 fn, .int .i64 pc, .hdr S 0 ns, .sl .fro (avs stack), .hdr M 0 (j + 1)]) (hm : ms.length = j + 1) (hx : ms[j]? = some x) (p : Nat) (w : Undo) (hp : x.undos.length = p + 1) (hw : x.undos[p]? = some w) (hpl : p < 10000000000000) (hl : k < 1000000) (hj : j < 1000000000000) (hR : R < N) (hM : M < N) (hRM : R ≠ M) (hkd : x.kind = 3) :
    BCall Try.prog 38 [(R, ⟨5, true, es⟩), (M, ⟨10, false, ms.map Mark.av⟩)] N [.hdr R 0 (k + 1)] (fun H1 n' v => H1 = [(R, ⟨5, true, es⟩), (M, ⟨10, false, (ms.map Mark.av).set j (Mark.av { x with undos := x.undos.take p })⟩)] ∧ n' = N + 200 ∧ v = .tup [w.av, .agg [.int .i64 0, .int .i64 0, .str ⟨#[]⟩, .sl .fro [], .sl .fro []], .bool false]) := by
  have hem := elem_map (f := Mark.av) hx
  obtain ⟨kind, target, slot, height, us, tk, tn, tt, ti, ts⟩ := x
  simp only [Mark.av] at hem
  have h5 : (R = M) = False ∧ (M = R) = False := ⟨eq_false hRM, eq_false fun e => hRM e.symm⟩
  have hN : (∀ q, (R = N + q) = False) ∧ (∀ q, (N + q = R) = False) ∧ (∀ q, (M = N + q) = False) ∧ (∀ q, (N + q = M) = False) ∧ (R = N) = False ∧ (N = R) = False ∧ (M = N) = False ∧ (N = M) = False ∧ (∀ q, (N + q < N) = False) := by
    refine ⟨?_, ?_, ?_, ?_, ?_, ?_, ?_, ?_, ?_⟩ <;> first | exact eq_false (by omega) | exact fun q => eq_false (by omega)
  have hL : (∀ q, R < N + q) ∧ (∀ q, M < N + q) := ⟨fun q => by omega, fun q => by omega⟩
  have h34 := f34_some (N + 100) R S M k j ns es (ms.map Mark.av) false fn pc stack hk he (by simpa using hm) hl hj (by omega) (by omega) hRM
  have h4 : j < j + 1 := by omega
  refine bcall_coded a38_ok (by simp) ?_
  repeat refine AW.seq ?_
  refine AW.reg ?_
  have hF := hN
  repeat (first | refine wD1 ?_ | refine wD2 ?_ | refine wE1 ?_ | refine wE2 ?_ | (refine wE3 ?_; intro _) | (refine wE4 ?_; intro _) | refine wN ?_ | ((with_reducible show evIs _ (_ :: _) _ _); first | refine wQ ?_ | refine wF ?_ | refine wG ?_ | refine wT ?_ | refine wM ?_ | refine wS ?_ | refine wP ?_ | refine wJ ?_ | refine wX ?_ | refine wY ?_))
  clear hF
  repeat refine evDone ?_
  try (show AW _ _ _ _ _)
  repeat refine AW.seq ?_
  refine AW.reg ?_
  have hF := hN
  repeat (first | refine wD1 ?_ | refine wD2 ?_ | refine wE1 ?_ | refine wE2 ?_ | (refine wE3 ?_; intro _) | (refine wE4 ?_; intro _) | refine wN ?_ | ((with_reducible show evIs _ (_ :: _) _ _); first | refine wQ ?_ | refine wF ?_ | refine wG ?_ | refine wT ?_ | refine wM ?_ | refine wS ?_ | refine wP ?_ | refine wJ ?_ | refine wX ?_ | refine wY ?_))
  clear hF
  repeat refine evDone ?_
  try (show AW _ _ _ _ _)
  have hF := And.intro (h5) (hN)
  refine wL (hA := h34) ?_
  clear hF
  rintro _ _ _ ⟨rfl, rfl, rfl⟩
  have hF := And.intro (h5) (hN)
  repeat (first | refine wD1 ?_ | refine wD2 ?_ | refine wE1 ?_ | refine wE2 ?_ | (refine wE3 ?_; intro _) | (refine wE4 ?_; intro _) | refine wN ?_ | ((with_reducible show evIs _ (_ :: _) _ _); first | refine wQ ?_ | refine wF ?_ | refine wG ?_ | refine wT ?_ | refine wM ?_ | refine wS ?_ | refine wP ?_ | refine wJ ?_ | refine wX ?_ | refine wY ?_))
  clear hF
  repeat refine evDone ?_
  try (show AW _ _ _ _ _)
  dsimp only at hkd hp hw
  have hwe := elem_map (f := Undo.av) hw
  obtain ⟨wf, wa⟩ := w
  simp only [Undo.av] at hwe
  have hp1 : (0 : Int) < (p : Int) + 1 := by omega
  have hp2 : IntKind.i64.wrap (p : Int) = (p : Int) := i64_in _ ⟨by omega, by omega⟩
  have hp3 : (0 : Int) ≤ p := by omega
  have hp4 : (p : Int) < (p : Int) + 1 := by omega
  have hp5 : (p : Int) ≤ (p : Int) + 1 := by omega
  have hp6 : p ≤ p + 1 := by omega
  subst hkd
  repeat refine AW.seq ?_
  refine AW.reg ?_
  have hF := And.intro (hem) (And.intro (h4) (And.intro (hm) (And.intro (h5) (hN))))
  repeat (first | refine wD1 ?_ | refine wD2 ?_ | refine wE1 ?_ | refine wE2 ?_ | (refine wE3 ?_; intro _) | (refine wE4 ?_; intro _) | refine wN ?_ | ((with_reducible show evIs _ (_ :: _) _ _); first | refine wQ ?_ | refine wF ?_ | refine wG ?_ | refine wT ?_ | refine wM ?_ | refine wS ?_ | refine wP ?_ | refine wJ ?_ | refine wX ?_ | refine wY ?_))
  clear hF
  repeat refine evDone ?_
  try (show AW _ _ _ _ _)
  repeat refine AW.seq ?_
  refine AW.condF (by simp []) (by simp []) ?_
  refine AW.skip ?_
  show AW _ _ _ _ _
  repeat refine AW.seq ?_
  refine AW.reg ?_
  have hF := And.intro (hem) (And.intro (h4) (And.intro (hm) (And.intro (h5) (hN))))
  repeat (first | refine wD1 ?_ | refine wD2 ?_ | refine wE1 ?_ | refine wE2 ?_ | (refine wE3 ?_; intro _) | (refine wE4 ?_; intro _) | refine wN ?_ | ((with_reducible show evIs _ (_ :: _) _ _); first | refine wQ ?_ | refine wF ?_ | refine wG ?_ | refine wT ?_ | refine wM ?_ | refine wS ?_ | refine wP ?_ | refine wJ ?_ | refine wX ?_ | refine wY ?_))
  clear hF
  repeat refine evDone ?_
  try (show AW _ _ _ _ _)
  repeat refine AW.seq ?_
  refine AW.reg ?_
  have hF := And.intro (hp) (And.intro (hp1) (hN))
  repeat (first | refine wD1 ?_ | refine wD2 ?_ | refine wE1 ?_ | refine wE2 ?_ | (refine wE3 ?_; intro _) | (refine wE4 ?_; intro _) | refine wN ?_ | ((with_reducible show evIs _ (_ :: _) _ _); first | refine wQ ?_ | refine wF ?_ | refine wG ?_ | refine wT ?_ | refine wM ?_ | refine wS ?_ | refine wP ?_ | refine wJ ?_ | refine wX ?_ | refine wY ?_))
  clear hF
  repeat refine evDone ?_
  try (show AW _ _ _ _ _)
  repeat refine AW.seq ?_
  refine AW.condT (by simp [hp, hp1]) (by simp [hp, hp1]) ?_
  repeat refine AW.seq ?_
  refine AW.reg ?_
  have hF := And.intro (hem) (And.intro (h4) (And.intro (hm) (And.intro (hp) (And.intro (hp2) (And.intro (hp3) (And.intro (hp4) (And.intro (hwe) (And.intro (h5) (hN)))))))))
  repeat (first | refine wD1 ?_ | refine wD2 ?_ | refine wE1 ?_ | refine wE2 ?_ | (refine wE3 ?_; intro _) | (refine wE4 ?_; intro _) | refine wN ?_ | ((with_reducible show evIs _ (_ :: _) _ _); first | refine wQ ?_ | refine wF ?_ | refine wG ?_ | refine wT ?_ | refine wM ?_ | refine wS ?_ | refine wP ?_ | refine wJ ?_ | refine wX ?_ | refine wY ?_))
  clear hF
  repeat refine evDone ?_
  try (show AW _ _ _ _ _)
  repeat refine AW.seq ?_
  refine AW.reg ?_
  have hF := And.intro (hem) (And.intro (h4) (And.intro (hm) (And.intro (hp) (And.intro (hp2) (And.intro (hp3) (And.intro (hp4) (And.intro (hp5) (And.intro (hp6) (And.intro (h5) (hN))))))))))
  repeat (first | refine wD1 ?_ | refine wD2 ?_ | refine wE1 ?_ | refine wE2 ?_ | (refine wE3 ?_; intro _) | (refine wE4 ?_; intro _) | refine wN ?_ | ((with_reducible show evIs _ (_ :: _) _ _); first | refine wQ ?_ | refine wF ?_ | refine wG ?_ | refine wT ?_ | refine wM ?_ | refine wS ?_ | refine wP ?_ | refine wJ ?_ | refine wX ?_ | refine wY ?_))
  clear hF
  repeat refine evDone ?_
  try (show AW _ _ _ _ _)
  repeat refine AW.seq ?_
  refine AW.reg ?_
  have hF := And.intro (h5) (hN)
  repeat (first | refine wD1 ?_ | refine wD2 ?_ | refine wE1 ?_ | refine wE2 ?_ | (refine wE3 ?_; intro _) | (refine wE4 ?_; intro _) | refine wN ?_ | ((with_reducible show evIs _ (_ :: _) _ _); first | refine wQ ?_ | refine wF ?_ | refine wG ?_ | refine wT ?_ | refine wM ?_ | refine wS ?_ | refine wP ?_ | refine wJ ?_ | refine wX ?_ | refine wY ?_))
  clear hF
  repeat refine evDone ?_
  try (show AW _ _ _ _ _)
  refine AW.ret ⟨by simp [resP, a38_res, ARes.op, h5, hN], [(R, ⟨5, true, es⟩), (M, ⟨10, false, (ms.map Mark.av).set j (.agg [.int .i64 3, .int .i64 target, .int .i64 slot, .int .i64 height, .sl .fro ((us.map Undo.av).take p), .int .i64 tk, .int .i64 tn, .str tt, .sl .fro (avs ti), .sl .fro (ts.map .str)])⟩)], N + 200, [.agg [.int .i64 wf, .sl .fro (avs wa)], .agg [.int .i64 0, .int .i64 0, .str ⟨#[]⟩, .sl .fro [], .sl .fro []], .bool false], ⟨by simp [Mark.av, List.map_take], rfl, rfl⟩, by omega, by simp [h5], rfl, by simp, ?_⟩
  simp only [resV, a38_res, List.map_cons, List.map_nil, ARes.op]
  refine Fit.mk _ _ _ (by simp [h5, hN, hL, conv2, newEmp, convs_refl, convs, conv]) (by simp [h5, hN, hL, heapFit, newEmp, conv2s, conv2, convs_refl, convs, conv]) (by intro q hq; first | (simp at hq; done) | (simp at hq; omega) | (simp at hq; simp; omega))
theorem f38_end (N R S M k j ns : Nat) (es : List AV) (ms : List Mark) (x : Mark) (fn pc : Int) (stack : List Val) (hk : es.length = k + 1) (he : elemAt es k = .agg [.int .i64 fn, .int .i64 pc, .hdr S 0 ns, .sl .fro (avs stack), .hdr M 0 (j + 1)]) (hm : ms.length = j + 1) (hx : ms[j]? = some x) (hu : x.undos = []) (hl : k < 1000000) (hj : j < 1000000000000) (hR : R < N) (hM : M < N) (hRM : R ≠ M) (hkd : x.kind = 3) :
    BCall Try.prog 38 [(R, ⟨5, true, es⟩), (M, ⟨10, false, ms.map Mark.av⟩)] N [.hdr R 0 (k + 1)] (fun H1 n' v => H1 = [(R, ⟨5, true, es.set k (.agg [.int .i64 fn, .int .i64 pc, .hdr S 0 ns, .sl .fro (avs stack), .hdr M 0 j])⟩), (M, ⟨10, false, ms.map Mark.av⟩)] ∧ n' = N + 200 ∧ v = .tup [.agg [.int .i64 (-1), .sl .fro []], .agg [.int .i64 x.tk, .int .i64 x.tn, .str x.tt, .sl .fro (avs x.ti), .sl .fro (x.ts.map .str)], .bool true]) := by
  have hem := elem_map (f := Mark.av) hx
  obtain ⟨kind, target, slot, height, us, tk, tn, tt, ti, ts⟩ := x
  simp only [Mark.av] at hem
  have h5 : (R = M) = False ∧ (M = R) = False := ⟨eq_false hRM, eq_false fun e => hRM e.symm⟩
  have hN : (∀ q, (R = N + q) = False) ∧ (∀ q, (N + q = R) = False) ∧ (∀ q, (M = N + q) = False) ∧ (∀ q, (N + q = M) = False) ∧ (R = N) = False ∧ (N = R) = False ∧ (M = N) = False ∧ (N = M) = False ∧ (∀ q, (N + q < N) = False) := by
    refine ⟨?_, ?_, ?_, ?_, ?_, ?_, ?_, ?_, ?_⟩ <;> first | exact eq_false (by omega) | exact fun q => eq_false (by omega)
  have hL : (∀ q, R < N + q) ∧ (∀ q, M < N + q) := ⟨fun q => by omega, fun q => by omega⟩
  have h34 := f34_some (N + 100) R S M k j ns es (ms.map Mark.av) false fn pc stack hk he (by simpa using hm) hl hj (by omega) (by omega) hRM
  have h4 : j < j + 1 := by omega
  refine bcall_coded a38_ok (by simp) ?_
  repeat refine AW.seq ?_
  refine AW.reg ?_
  have hF := hN
  repeat (first | refine wD1 ?_ | refine wD2 ?_ | refine wE1 ?_ | refine wE2 ?_ | (refine wE3 ?_; intro _) | (refine wE4 ?_; intro _) | refine wN ?_ | ((with_reducible show evIs _ (_ :: _) _ _); first | refine wQ ?_ | refine wF ?_ | refine wG ?_ | refine wT ?_ | refine wM ?_ | refine wS ?_ | refine wP ?_ | refine wJ ?_ | refine wX ?_ | refine wY ?_))
  clear hF
  repeat refine evDone ?_
  try (show AW _ _ _ _ _)
  repeat refine AW.seq ?_
  refine AW.reg ?_
  have hF := hN
  repeat (first | refine wD1 ?_ | refine wD2 ?_ | refine wE1 ?_ | refine wE2 ?_ | (refine wE3 ?_; intro _) | (refine wE4 ?_; intro _) | refine wN ?_ | ((with_reducible show evIs _ (_ :: _) _ _); first | refine wQ ?_ | refine wF ?_ | refine wG ?_ | refine wT ?_ | refine wM ?_ | refine wS ?_ | refine wP ?_ | refine wJ ?_ | refine wX ?_ | refine wY ?_))
  clear hF
  repeat refine evDone ?_
  try (show AW _ _ _ _ _)
  have hF := And.intro (h5) (hN)
  refine wL (hA := h34) ?_
  clear hF
  rintro _ _ _ ⟨rfl, rfl, rfl⟩
  have hF := And.intro (h5) (hN)
  repeat (first | refine wD1 ?_ | refine wD2 ?_ | refine wE1 ?_ | refine wE2 ?_ | (refine wE3 ?_; intro _) | (refine wE4 ?_; intro _) | refine wN ?_ | ((with_reducible show evIs _ (_ :: _) _ _); first | refine wQ ?_ | refine wF ?_ | refine wG ?_ | refine wT ?_ | refine wM ?_ | refine wS ?_ | refine wP ?_ | refine wJ ?_ | refine wX ?_ | refine wY ?_))
  clear hF
  repeat refine evDone ?_
  try (show AW _ _ _ _ _)
  dsimp only at hkd hu
  subst hkd
  subst hu
  have h36 := f36 (N + 150) R S M k j ns es (ms.map Mark.av) false fn pc stack hk he (by simpa using hm) hj (by omega) (by omega) hRM
  repeat refine AW.seq ?_
  refine AW.reg ?_
  have hF := And.intro (hem) (And.intro (h4) (And.intro (hm) (And.intro (h5) (hN))))
  repeat (first | refine wD1 ?_ | refine wD2 ?_ | refine wE1 ?_ | refine wE2 ?_ | (refine wE3 ?_; intro _) | (refine wE4 ?_; intro _) | refine wN ?_ | ((with_reducible show evIs _ (_ :: _) _ _); first | refine wQ ?_ | refine wF ?_ | refine wG ?_ | refine wT ?_ | refine wM ?_ | refine wS ?_ | refine wP ?_ | refine wJ ?_ | refine wX ?_ | refine wY ?_))
  clear hF
  repeat refine evDone ?_
  try (show AW _ _ _ _ _)
  repeat refine AW.seq ?_
  refine AW.condF (by simp []) (by simp []) ?_
  refine AW.skip ?_
  show AW _ _ _ _ _
  repeat refine AW.seq ?_
  refine AW.reg ?_
  have hF := And.intro (hem) (And.intro (h4) (And.intro (hm) (And.intro (h5) (hN))))
  repeat (first | refine wD1 ?_ | refine wD2 ?_ | refine wE1 ?_ | refine wE2 ?_ | (refine wE3 ?_; intro _) | (refine wE4 ?_; intro _) | refine wN ?_ | ((with_reducible show evIs _ (_ :: _) _ _); first | refine wQ ?_ | refine wF ?_ | refine wG ?_ | refine wT ?_ | refine wM ?_ | refine wS ?_ | refine wP ?_ | refine wJ ?_ | refine wX ?_ | refine wY ?_))
  clear hF
  repeat refine evDone ?_
  try (show AW _ _ _ _ _)
  repeat refine AW.seq ?_
  refine AW.reg ?_
  have hF := hN
  repeat (first | refine wD1 ?_ | refine wD2 ?_ | refine wE1 ?_ | refine wE2 ?_ | (refine wE3 ?_; intro _) | (refine wE4 ?_; intro _) | refine wN ?_ | ((with_reducible show evIs _ (_ :: _) _ _); first | refine wQ ?_ | refine wF ?_ | refine wG ?_ | refine wT ?_ | refine wM ?_ | refine wS ?_ | refine wP ?_ | refine wJ ?_ | refine wX ?_ | refine wY ?_))
  clear hF
  repeat refine evDone ?_
  try (show AW _ _ _ _ _)
  repeat refine AW.seq ?_
  refine AW.condF (by simp []) (by simp []) ?_
  refine AW.skip ?_
  show AW _ _ _ _ _
  repeat refine AW.seq ?_
  refine AW.reg ?_
  have hF := And.intro (hem) (And.intro (h4) (And.intro (hm) (And.intro (h5) (hN))))
  repeat (first | refine wD1 ?_ | refine wD2 ?_ | refine wE1 ?_ | refine wE2 ?_ | (refine wE3 ?_; intro _) | (refine wE4 ?_; intro _) | refine wN ?_ | ((with_reducible show evIs _ (_ :: _) _ _); first | refine wQ ?_ | refine wF ?_ | refine wG ?_ | refine wT ?_ | refine wM ?_ | refine wS ?_ | refine wP ?_ | refine wJ ?_ | refine wX ?_ | refine wY ?_))
  clear hF
  repeat refine evDone ?_
  try (show AW _ _ _ _ _)
  repeat refine AW.seq ?_
  refine AW.reg ?_
  have hF := hN
  repeat (first | refine wD1 ?_ | refine wD2 ?_ | refine wE1 ?_ | refine wE2 ?_ | (refine wE3 ?_; intro _) | (refine wE4 ?_; intro _) | refine wN ?_ | ((with_reducible show evIs _ (_ :: _) _ _); first | refine wQ ?_ | refine wF ?_ | refine wG ?_ | refine wT ?_ | refine wM ?_ | refine wS ?_ | refine wP ?_ | refine wJ ?_ | refine wX ?_ | refine wY ?_))
  clear hF
  repeat refine evDone ?_
  try (show AW _ _ _ _ _)
  have hF := And.intro (h5) (hN)
  refine wL (hA := h36) ?_
  clear hF
  rintro _ _ _ ⟨rfl, rfl, rfl⟩
  have hF := And.intro (h5) (hN)
  repeat (first | refine wD1 ?_ | refine wD2 ?_ | refine wE1 ?_ | refine wE2 ?_ | (refine wE3 ?_; intro _) | (refine wE4 ?_; intro _) | refine wN ?_ | ((with_reducible show evIs _ (_ :: _) _ _); first | refine wQ ?_ | refine wF ?_ | refine wG ?_ | refine wT ?_ | refine wM ?_ | refine wS ?_ | refine wP ?_ | refine wJ ?_ | refine wX ?_ | refine wY ?_))
  clear hF
  repeat refine evDone ?_
  try (show AW _ _ _ _ _)
  repeat refine AW.seq ?_
  refine AW.draw ?_
  have hF := And.intro (h5) (hN)
  repeat (first | refine wD1 ?_ | refine wD2 ?_ | refine wE1 ?_ | refine wE2 ?_ | (refine wE3 ?_; intro _) | (refine wE4 ?_; intro _) | refine wN ?_ | ((with_reducible show evIs _ (_ :: _) _ _); first | refine wQ ?_ | refine wF ?_ | refine wG ?_ | refine wT ?_ | refine wM ?_ | refine wS ?_ | refine wP ?_ | refine wJ ?_ | refine wX ?_ | refine wY ?_))
  clear hF
  repeat refine evDone ?_
  try (show AW _ _ _ _ _)
  have hF := hN
  refine wC (hA := f37) ?_
  clear hF
  have hF := And.intro (h5) (hN)
  repeat (first | refine wD1 ?_ | refine wD2 ?_ | refine wE1 ?_ | refine wE2 ?_ | (refine wE3 ?_; intro _) | (refine wE4 ?_; intro _) | refine wN ?_ | ((with_reducible show evIs _ (_ :: _) _ _); first | refine wQ ?_ | refine wF ?_ | refine wG ?_ | refine wT ?_ | refine wM ?_ | refine wS ?_ | refine wP ?_ | refine wJ ?_ | refine wX ?_ | refine wY ?_))
  clear hF
  repeat refine evDone ?_
  try (show AW _ _ _ _ _)
  refine AW.ret ⟨by simp [resP, a38_res, ARes.op, h5, hN], [(R, ⟨5, true, es.set k (.agg [.int .i64 fn, .int .i64 pc, .hdr S 0 ns, .sl .fro (avs stack), .hdr M 0 j])⟩), (M, ⟨10, false, ms.map Mark.av⟩)], N + 200, [.agg [.int .i64 (-1), .sl .fro []], .agg [.int .i64 tk, .int .i64 tn, .str tt, .sl .fro (avs ti), .sl .fro (ts.map .str)], .bool true], ⟨rfl, rfl, rfl⟩, by omega, by simp [h5], rfl, by simp, ?_⟩
  simp only [resV, a38_res, List.map_cons, List.map_nil, ARes.op]
  refine Fit.mk _ _ _ (by simp [h5, hN, hL, conv2, newEmp, convs_refl, convs, conv]) (by simp [h5, hN, hL, heapFit, newEmp, conv2s, conv2, convs_refl, convs, conv]) (by intro q hq; first | (simp at hq; done) | (simp at hq; omega) | (simp at hq; simp; omega))
end Go.Proofs.Ytafkaofaioleiaa

set_option linter.unusedSimpArgs false
set_option linter.unusedVariables false
set_option maxHeartbeats 8000000
namespace Go.Amb
theorem mkS_eq (t : List (Nat × AV)) (h : List (Nat × Blk)) (n : Nat) : mkS t h n = ⟨mkT t, mkH h, n, fun r => decide (r < n)⟩ := rfl
theorem hupd_get (h : Nat → Option Blk) (r : Nat) (b : Option Blk) (j : Nat) : hupd h r b j = if j = r then b else h j := rfl
theorem uupd_get (u : Nat → Bool) (r j : Nat) : uupd u r j = if j = r then true else u j := rfl
end Go.Amb
namespace Go.Proofs.Ytafkaofaioleiaa
open Go Go.Amb Go.IntWalk

def rowH (fn pc : Int) (S ns : Nat) (stack : List Val) (M nm : Nat) : AV := .agg [.int .i64 fn, .int .i64 pc, .hdr S 0 ns, .sl .fro (avs stack), .hdr M 0 nm]
theorem openLast {t : List (Nat × AV)} {h : Nat → Option Blk} {n : Nat} {u : Nat → Bool} (R S M : Nat) (A : List AV) (f : Frame) (hb : h R = some ⟨5, false, A ++ [f.ao]⟩) (hA : ∀ a ∈ A, (cellsOf a).length = 5) (hS : u S = false) (hM : u M = false) (hSM : S ≠ M) :
    Fit ⟨mkT t, h, n, u⟩ ⟨mkT t, hupd (hupd (hupd (hupd (hupd h R (some ⟨5, true, A ++ [f.ao]⟩)) R (some ⟨5, true, A ++ [.agg [.int .i64 f.fn, .int .i64 f.pc, .hdr S 0 f.slots.length, .sl .fro (avs f.stack), .sl (.own 10) (f.marks.map Mark.av)]]⟩)) S (some ⟨5, false, avs f.slots⟩)) R (some ⟨5, true, A ++ [rowH f.fn f.pc S f.slots.length f.stack M f.marks.length]⟩)) M (some ⟨10, false, f.marks.map Mark.av⟩), n, uupd (uupd u S) M⟩ := by
  have hRS : R ≠ S ∨ R = S := by omega
  intro E a w h0
  have hRu : u R = true := by
    obtain ⟨pl, fp, hR⟩ := h0
    exact hR.used R (by show (h R).isSome = true; rw [hb]; rfl)
  have hRS : R ≠ S := fun e => by rw [e, hS] at hRu; cases hRu
  have hl := av_len f.slots
  refine (Fit.thaw (b := ⟨5, true, A ++ [.agg [.int .i64 f.fn, .int .i64 f.pc, .hdr S 0 f.slots.length, .sl .fro (avs f.stack), .sl (.own 10) (f.marks.map Mark.av)]]⟩) (A := flat A ++ [.int .i64 f.fn, .int .i64 f.pc, .hdr S 0 f.slots.length, .sl .fro (avs f.stack)]) (C := []) (xs := f.marks.map Mark.av) (es' := A ++ [rowH f.fn f.pc S f.slots.length f.stack M f.marks.length]) (q := M) (r := R) (sz := 10) ?_ rfl ?_ (by omega) ?_ ?_ ?_ ?_) E a w
    (Fit.thaw (b := ⟨5, true, A ++ [f.ao]⟩) (A := flat A ++ [.int .i64 f.fn, .int .i64 f.pc]) (C := [.sl .fro (avs f.stack), .sl (.own 10) (f.marks.map Mark.av)]) (xs := avs f.slots) (es' := A ++ [.agg [.int .i64 f.fn, .int .i64 f.pc, .hdr S 0 f.slots.length, .sl .fro (avs f.stack), .sl (.own 10) (f.marks.map Mark.av)]]) (q := S) (r := R) (sz := 5) ?_ rfl hS (by omega) ?_ ?_ ?_ ?_ E a w (Fit.opened hb E a w h0))
  · simp [hupd, hRS]
  · simp [uupd, hM, hSM.symm]
  · simp [flat]
  · simp [flat, rowH]
  · simp
  · intro x hx
    simp only [List.mem_append, List.mem_singleton] at hx
    rcases hx with hx | rfl
    · exact hA x hx
    · simp [rowH]
  · simp [hupd]
  · simp [flat, Frame.ao]
  · simp [flat, hl]
  · simp
  · intro x hx
    simp only [List.mem_append, List.mem_singleton] at hx
    rcases hx with hx | rfl
    · exact hA x hx
    · simp
theorem shutLast {t : List (Nat × AV)} {h : Nat → Option Blk} {n : Nat} {u : Nat → Bool} (R S M : Nat) (A : List AV) (fn pc : Int) (slots stack : List Val) (ms : List Mark) (ys : List AV) (nm : Nat) (hb : h R = some ⟨5, true, A ++ [rowH fn pc S slots.length stack M nm]⟩) (hS : h S = some ⟨5, false, avs slots⟩) (hM : h M = some ⟨10, false, ys⟩) (hnm : nm ≤ ys.length) (hys : ys.take nm = ms.map Mark.av)
    (hA : ∀ a ∈ A, (cellsOf a).length = 5) (hA2 : ∀ c ∈ flat A, shutC c = true) (hRS : R ≠ S) (hRM : R ≠ M) (hSM : S ≠ M) :
    Fit ⟨mkT t, h, n, u⟩ ⟨mkT t, hupd (hupd (hupd (hupd (hupd h R (some ⟨5, true, A ++ [.agg [.int .i64 fn, .int .i64 pc, .hdr S 0 slots.length, .sl .fro (avs stack), .sl (.own 10) (ms.map Mark.av)]]⟩)) M none) R (some ⟨5, true, A ++ [Frame.ao ⟨fn, pc, slots, stack, ms⟩]⟩)) S none) R (some ⟨5, false, A ++ [Frame.ao ⟨fn, pc, slots, stack, ms⟩]⟩), n, u⟩ := by
  have hl := av_len slots
  have ht : (avs slots).take slots.length = avs slots := List.take_of_length_le (by simp)
  have h1 := Fit.back (t := t) (n := n) (u := u) (r := R) (q := M) (A := flat A ++ [.int .i64 fn, .int .i64 pc, .hdr S 0 slots.length, .sl .fro (avs stack)]) (C := []) (es' := A ++ [.agg [.int .i64 fn, .int .i64 pc, .hdr S 0 slots.length, .sl .fro (avs stack), .sl (.own 10) (ms.map Mark.av)]]) (len := nm) hb rfl hM hRM.symm hnm (by simp [flat, rowH]) (by simp [flat, hys]) (by simp) (by
    intro x hx
    simp only [List.mem_append, List.mem_singleton] at hx
    rcases hx with hx | rfl
    · exact hA x hx
    · simp)
  have h2 := Fit.back (t := t) (n := n) (u := u) (h := hupd (hupd h R (some ⟨5, true, A ++ [.agg [.int .i64 fn, .int .i64 pc, .hdr S 0 slots.length, .sl .fro (avs stack), .sl (.own 10) (ms.map Mark.av)]]⟩)) M none) (r := R) (q := S) (A := flat A ++ [.int .i64 fn, .int .i64 pc]) (C := [.sl .fro (avs stack), .sl (.own 10) (ms.map Mark.av)]) (es' := A ++ [Frame.ao ⟨fn, pc, slots, stack, ms⟩]) (len := slots.length) (b := ⟨5, true, A ++ [.agg [.int .i64 fn, .int .i64 pc, .hdr S 0 slots.length, .sl .fro (avs stack), .sl (.own 10) (ms.map Mark.av)]]⟩) (xs := avs slots) (sz := 5) (by simp [hupd, hRM]) rfl (by simp [hupd, hSM, hRS.symm, hS]) hRS.symm (by simp) (by simp [flat]) (by simp [flat, Frame.ao, ht]) (by simp) (by
    intro x hx
    simp only [List.mem_append, List.mem_singleton] at hx
    rcases hx with hx | rfl
    · exact hA x hx
    · simp)
  refine fun E a w h0 => Fit.closed (b := ⟨5, true, A ++ [Frame.ao ⟨fn, pc, slots, stack, ms⟩]⟩) (by simp [hupd, hRS]) ?_ E a w (h2 E a w (h1 E a w h0))
  intro c hc
  simp only [flat_append, List.mem_append] at hc
  rcases hc with hc | hc
  · exact hA2 c hc
  · simp [flat, Frame.ao] at hc
    rcases hc with rfl | rfl | rfl | rfl | rfl <;> rfl
end Go.Proofs.Ytafkaofaioleiaa

set_option linter.unusedSimpArgs false
set_option linter.unusedVariables false
namespace Go.Proofs.Ytafkaofaioleiaa
open Go Go.Amb Go.IntWalk

def noneU : Undo := ⟨-1, []⟩
def setS (slots : List Val) (i : Int) (v : Val) : List Val := if 0 ≤ i ∧ i < slots.length then slots.set i.toNat v else slots
def Mark.th (m : Mark) : Val := .mk m.tk m.tn m.tt m.ti m.ts
def Mark.thr (m : Mark) : Val → Mark
  | .mk a b c d e => { m with kind := 3, tk := a, tn := b, tt := c, ti := d, ts := e }
inductive Out where
  | go (fs : List Frame) (v : Val)
  | done (fs : List Frame) (u : Undo) (ok : Bool)
def Mark.now (m : Mark) (v : Val) : Mark := if m.kind = 2 then m.thr v else m
def stepM (A : List Frame) (f : Frame) (ms : List Mark) (m : Mark) (v : Val) : Out :=
  if m.kind = 1 then .done (A ++ [⟨f.fn, m.target, setS f.slots m.slot v, cutS f.stack m.height, ms⟩]) noneU true
  else if m.kind = 2 ∨ m.kind = 3 then
    match m.undos.getLast? with
    | none => .go (A ++ [⟨f.fn, f.pc, f.slots, cutS f.stack m.height, ms⟩]) (m.now v).th
    | some u => .done (A ++ [⟨f.fn, f.pc, f.slots, cutS f.stack m.height, ms ++ [{ m.now v with undos := m.undos.dropLast }]⟩]) u true
  else .go (A ++ [⟨f.fn, f.pc, f.slots, f.stack, ms⟩]) v
def stepF (A : List Frame) (f : Frame) (v : Val) : Out :=
  match f.marks.getLast? with
  | none => .go A v
  | some m => stepM A f f.marks.dropLast m v
def throwF : Nat → List Frame → Val → List Frame × Undo × Bool
  | 0, _, _ => ([], noneU, false)
  | k + 1, fs, v => match fs.getLast? with
    | none => ([], noneU, false)
    | some f => match stepF fs.dropLast f v with
      | .go fs' v' => throwF k fs' v'
      | .done fs' u ok => (fs', u, ok)
def szF (fs : List Frame) : Nat := fs.length + (fs.map fun f => f.marks.length).sum
def Frame.ok2 (f : Frame) : Prop := f.ok ∧ f.marks.length ≤ 12
theorem szF_snoc (A : List Frame) (f : Frame) : szF (A ++ [f]) = szF A + 1 + f.marks.length := by simp [szF]; omega
theorem mark_ok_th {m : Mark} (h : m.ok) : m.th.okv := h.2.2
theorem mark_ok_now {m : Mark} (h : m.ok) {v : Val} (hv : v.okv) : (m.now v).ok := by
  unfold Mark.now
  split
  · obtain ⟨a, b, c, d, e⟩ := v
    exact ⟨h.1, h.2.1, hv⟩
  · exact h
theorem now_undos (m : Mark) (v : Val) : (m.now v).undos = m.undos := by
  unfold Mark.now
  split
  · obtain ⟨a, b, c, d, e⟩ := v; rfl
  · rfl
theorem okvs_set {vs : List Val} (h : okvs vs) {v : Val} (hv : v.okv) (i : Nat) : okvs (vs.set i v) := okvs_of fun x hx => by
  rcases List.mem_or_eq_of_mem_set hx with hx | rfl
  · exact okvs_mem h hx
  · exact hv
theorem okvs_take {vs : List Val} (h : okvs vs) (i : Nat) : okvs (vs.take i) := okvs_of fun x hx => okvs_mem h (List.mem_of_mem_take hx)
theorem setS_ok {vs : List Val} (h : okvs vs) {v : Val} (hv : v.okv) (i : Int) : okvs (setS vs i v) := by unfold setS; split; exact okvs_set h hv _; exact h
theorem setS_len (vs : List Val) (v : Val) (i : Int) : (setS vs i v).length = vs.length := by unfold setS; split <;> simp
theorem cutS_ok {vs : List Val} (h : okvs vs) (i : Int) : okvs (cutS vs i) := by unfold cutS; split; exact okvs_take h _; exact h
theorem cutS_len (vs : List Val) (i : Int) : (cutS vs i).length ≤ vs.length := by unfold cutS; split; simp; omega; omega
/-- How a frame keeps its bounds. -/
theorem frame_keeps {f : Frame} (h : f.ok2) {fn pc : Int} {slots stack : List Val} {ms : List Mark} (h1 : okvs slots) (h2 : slots.length = f.slots.length) (h3 : okvs stack) (h4 : stack.length ≤ f.stack.length) (h5 : ms.length ≤ f.marks.length) (h6 : ∀ m ∈ ms, m.ok) : (Frame.mk fn pc slots stack ms).ok2 := by
  obtain ⟨⟨a, b, c, d, e, g⟩, l⟩ := h
  exact ⟨⟨h1, by dsimp only; omega, h3, by dsimp only; omega, by dsimp only; omega, h6⟩, by dsimp only; omega⟩
theorem undo_init_ok {m : Mark} (h : m.ok) : Mark.ok { m with undos := m.undos.dropLast } := by
  obtain ⟨a, b, c⟩ := h
  exact ⟨by simp; omega, fun u hu => b u ((List.dropLast_sublist _).subset hu), c⟩
theorem getLast_split {α : Type} {l : List α} {x : α} (h : l.getLast? = some x) : l = l.dropLast ++ [x] := by
  obtain ⟨ys, hy⟩ := List.getLast?_eq_some_iff.1 h
  subst hy; simp
def oks (fs : List Frame) : Prop := ∀ f ∈ fs, f.ok2
theorem oks_snoc {A : List Frame} {f : Frame} : oks (A ++ [f]) ↔ oks A ∧ f.ok2 := by
  simp [oks, or_imp, forall_and]
theorem stepM_keeps (A : List Frame) (f : Frame) (ms : List Mark) (m : Mark) (v : Val) (hA : oks A) (hf : f.ok2) (hm : f.marks = ms ++ [m]) (hv : v.okv) :
    match stepM A f ms m v with
    | .go fs v' => oks fs ∧ v'.okv ∧ fs.length ≤ A.length + 1 ∧ szF fs < szF (A ++ [f])
    | .done fs u _ => oks fs ∧ u.ok ∧ fs.length ≤ A.length + 1 := by
  have hmok : ∀ x ∈ ms ++ [m], x.ok := by rw [← hm]; exact hf.1.2.2.2.2.2
  have hm1 : m.ok := hmok m (by simp)
  have hms : ∀ x ∈ ms, x.ok := fun x hx => hmok x (by simp [hx])
  have hl : ms.length + 1 = f.marks.length := by rw [hm]; simp
  have hno : noneU.ok := ⟨trivial, by simp [noneU]⟩
  have hs := cutS_ok hf.1.2.2.1 m.height
  have hs' := cutS_len f.stack m.height
  by_cases h1 : m.kind = 1
  · rw [show stepM A f ms m v = _ from if_pos h1]
    exact ⟨oks_snoc.2 ⟨hA, frame_keeps hf (setS_ok hf.1.1 hv _) (setS_len ..) hs hs' (by omega) hms⟩, hno, by simp⟩
  · by_cases h2 : m.kind = 2 ∨ m.kind = 3
    · cases hu : m.undos.getLast? with
      | none =>
        rw [show stepM A f ms m v = .go (A ++ [⟨f.fn, f.pc, f.slots, cutS f.stack m.height, ms⟩]) (m.now v).th by simp [stepM, h1, h2, hu]]
        exact ⟨oks_snoc.2 ⟨hA, frame_keeps hf hf.1.1 rfl hs hs' (by omega) hms⟩, mark_ok_th (mark_ok_now hm1 hv), by simp, by rw [szF_snoc, szF_snoc]; dsimp only; omega⟩
      | some u =>
        rw [show stepM A f ms m v = .done (A ++ [⟨f.fn, f.pc, f.slots, cutS f.stack m.height, ms ++ [{ m.now v with undos := m.undos.dropLast }]⟩]) u true by simp [stepM, h1, h2, hu]]
        refine ⟨oks_snoc.2 ⟨hA, frame_keeps hf hf.1.1 rfl hs hs' (by simp; omega) ?_⟩, hm1.2.1 u (List.mem_of_getLast? hu), by simp⟩
        intro x hx
        simp only [List.mem_append, List.mem_singleton] at hx
        rcases hx with hx | rfl
        · exact hms x hx
        · have := undo_init_ok (mark_ok_now hm1 hv)
          rw [now_undos] at this
          exact this
    · rw [show stepM A f ms m v = .go (A ++ [⟨f.fn, f.pc, f.slots, f.stack, ms⟩]) v by simp [stepM, h1, h2]]
      exact ⟨oks_snoc.2 ⟨hA, frame_keeps hf hf.1.1 rfl hf.1.2.2.1 (Nat.le_refl _) (by omega) hms⟩, hv, by simp, by rw [szF_snoc, szF_snoc]; dsimp only; omega⟩
/-- What one step of Throw leaves. -/
def OutOk (A : List Frame) (f : Frame) : Out → Prop
  | .go fs v' => oks fs ∧ v'.okv ∧ fs.length ≤ A.length + 1 ∧ szF fs < szF (A ++ [f])
  | .done fs u _ => oks fs ∧ u.ok ∧ fs.length ≤ A.length + 1
theorem stepM_keeps' (A : List Frame) (fn pc : Int) (slots stack : List Val) (ms : List Mark) (m : Mark) (v : Val) (hA : oks A) (hf : (Frame.mk fn pc slots stack (ms ++ [m])).ok2) (hv : v.okv) : OutOk A ⟨fn, pc, slots, stack, ms ++ [m]⟩ (stepM A ⟨fn, pc, slots, stack, ms ++ [m]⟩ ms m v) := by
  have h := stepM_keeps A ⟨fn, pc, slots, stack, ms ++ [m]⟩ ms m v hA hf rfl hv
  revert h
  cases stepM A ⟨fn, pc, slots, stack, ms ++ [m]⟩ ms m v <;> exact id
theorem throwF_none (k : Nat) (v : Val) : throwF k [] v = ([], noneU, false) := by cases k <;> rfl
theorem throwF_snoc (k : Nat) (A : List Frame) (f : Frame) (v : Val) : throwF (k + 1) (A ++ [f]) v = (match stepF A f v with | .go fs' v' => throwF k fs' v' | .done fs' u ok => (fs', u, ok)) := by
  show (match (A ++ [f]).getLast? with | none => _ | some f' => match stepF (A ++ [f]).dropLast f' v with | .go fs' v' => throwF k fs' v' | .done fs' u ok => (fs', u, ok)) = _
  simp
/-- What a step leaves of the whole. -/
def OutIs (K : Nat) (T : List Frame × Undo × Bool) : Out → Prop
  | .go fs v => throwF K fs v = T
  | .done fs u ok => (fs, u, ok) = T
theorem throwF_is {K : Nat} {A : List Frame} {f : Frame} {v : Val} {T : List Frame × Undo × Bool} (h : throwF (K + 1) (A ++ [f]) v = T) : OutIs K T (stepF A f v) := by
  rw [throwF_snoc] at h
  revert h
  cases stepF A f v <;> exact id
theorem stepF_nil (A : List Frame) (f : Frame) (v : Val) (h : f.marks = []) : stepF A f v = .go A v := by simp [stepF, h]
theorem stepF_snoc (A : List Frame) (f : Frame) (v : Val) (ms : List Mark) (m : Mark) (h : f.marks = ms ++ [m]) : stepF A f v = stepM A f ms m v := by simp [stepF, h]
theorem snoc_cases {α : Type} (l : List α) : l = [] ∨ ∃ A x, l = A ++ [x] := by
  cases h : l.getLast? with
  | none => exact .inl (List.getLast?_eq_none_iff.1 h)
  | some x => exact .inr ⟨_, _, getLast_split h⟩
theorem throwF_keeps : ∀ (k : Nat) (fs : List Frame) (v : Val), oks fs → v.okv → oks (throwF k fs v).1 ∧ (throwF k fs v).2.1.ok ∧ (throwF k fs v).1.length ≤ fs.length := by
  intro k
  have hno : noneU.ok := ⟨trivial, by simp [noneU]⟩
  induction k with
  | zero => intro fs v _ _; exact ⟨fun f hf => absurd hf (by simp [throwF]), hno, by simp [throwF]⟩
  | succ k ih =>
    intro fs v hfs hv
    rcases snoc_cases fs with rfl | ⟨A, f, rfl⟩
    · rw [throwF_none]; exact ⟨fun f hf => absurd hf (by simp), hno, by simp⟩
    · rw [throwF_snoc]
      obtain ⟨hA, hf⟩ := oks_snoc.1 hfs
      rcases snoc_cases f.marks with h | ⟨ms, m, h⟩
      · rw [stepF_nil A f v h]
        have := ih A v hA hv
        exact ⟨this.1, this.2.1, by simp; omega⟩
      · rw [stepF_snoc A f v ms m h]
        have := stepM_keeps A f ms m v hA hf h hv
        cases hs : stepM A f ms m v with
        | go fs' v' =>
          rw [hs] at this
          have h2 := ih fs' v' this.1 this.2.1
          exact ⟨h2.1, h2.2.1, by simp; omega⟩
        | done fs' u ok =>
          rw [hs] at this
          exact ⟨this.1, this.2.1, by simpa using this.2.2⟩
end Go.Proofs.Ytafkaofaioleiaa

set_option linter.unusedSimpArgs false
set_option linter.unusedVariables false
set_option maxHeartbeats 16000000
namespace Go.Amb
theorem Fit.then {a b c : St} (h1 : Fit a b) (h2 : Fit b c) : Fit a c := fun E x w h => h2 E x w (h1 E x w h)
theorem avs_set (vs : List Val) (i : Nat) (v : Val) : (avs vs).set i v.av = avs (vs.set i v) := by simp [vals_map, List.map_set]
theorem elem_snoc {α : Type} (f : α → AV) (A : List α) (x : AV) : elemAt (A.map f ++ [x]) A.length = x := by simp [elemAt]
theorem set_snoc {α : Type} (f : α → AV) (A : List α) (x y : AV) : (A.map f ++ [x]).set A.length y = A.map f ++ [y] := by
  rw [List.set_append]; simp
theorem take_snoc {α : Type} (f : α → AV) (A : List α) (x : AV) : (A.map f ++ [x]).take (A.length + 1) = A.map f ++ [x] := List.take_of_length_le (by simp)
theorem elem_avs (vs : List Val) (i : Nat) (h : i < vs.length) : ∃ (a b : Int) (c : ByteArray) (d : List Val) (e : List ByteArray), elemAt (avs vs) i = .agg [.int .i64 a, .int .i64 b, .str c, .sl .fro (avs d), .sl .fro (e.map .str)] := by
  obtain ⟨v, hv⟩ : ∃ v, vs[i]? = some v := ⟨_, List.getElem?_eq_getElem h⟩
  have := elem_map (f := Val.av) hv
  obtain ⟨a, b, c, d, e⟩ := v
  exact ⟨a, b, c, d, e, by rw [vals_map, this]; rfl⟩
end Go.Amb
namespace Go.Proofs.Ytafkaofaioleiaa
open Go Go.Amb Go.IntWalk

def resT : List Frame × Undo × Bool → AV
  | (fs, u, ok) => .tup [if ok then .sl (.own 5) (fs.map Frame.ao) else .sl .ext [], u.av, .bool ok]
theorem ao_shut (A : List Frame) : ∀ c ∈ flat (A.map Frame.ao), shutC c = true := by
  intro c hc
  rw [flat, List.mem_flatMap] at hc
  obtain ⟨x, hx, hc⟩ := hc
  obtain ⟨f, _, rfl⟩ := List.mem_map.1 hx
  simp [Frame.ao] at hc
  rcases hc with rfl | rfl | rfl | rfl | rfl <;> rfl
theorem ao_len (A : List Frame) : ∀ x ∈ A.map Frame.ao, (cellsOf x).length = 5 := by
  intro x hx
  obtain ⟨f, _, rfl⟩ := List.mem_map.1 hx
  simp
def tryC : ACode := (.seq a13_r9 (.seq (.seq a13_r10 (.cond (.t 58) a13_r11 .skip)) (.seq a13_r12 (.seq a13_r13 (.seq a13_r14 .ret)))))
def nextC : ACode := (.seq a13_r20 (.seq (.seq a13_r21 (.cond (.t 105) (.seq a13_r22 .ret) .skip)) a13_r23))
theorem t_try (A : List Frame) (ms : List Mark) (fn pc : Int) (slots stack : List Val) (kind target slot height : Int) (us : List Undo) (tk tn : Int) (tt : ByteArray) (ti : List Val) (ts : List ByteArray) (a b : Int) (c : ByteArray) (d : List Val) (e : List ByteArray) (n : Nat) (hn : 300 ≤ n) (hkA : A.length < 12) (hml : ms.length < 12) (Q : AE → St → Prop) (hQ : ∀ s, retQ a13_res (· = resT (A ++ [⟨fn, target, setS slots slot (Val.mk a b c d e), cutS stack height, ms⟩], noneU, true)) .ret s → Q .ret s) : AW Try.prog 110 tryC (mkS [(0, .hdr 5 0 (A.length + 1)), (3, .ptr 0 0 0), (4, .sl .ext []), (5, .ptr 2 0 0), (6, .bool false), (7, .ptr 5 A.length 0), (8, .ptr (n + 1) ms.length 0), (34, .int .i64 1)] [(5, ⟨5, true, A.map Frame.ao ++ [.agg [.int .i64 fn, .int .i64 pc, .hdr n 0 slots.length, .sl .fro (avs stack), .hdr (n + 1) 0 (ms.length + 1)]]⟩), (n, ⟨5, false, avs slots⟩), (n + 1, ⟨10, false, ms.map Mark.av ++ [.agg [.int .i64 1, .int .i64 target, .int .i64 slot, .int .i64 height, .sl .fro (us.map Undo.av), .int .i64 tk, .int .i64 tn, .str tt, .sl .fro (avs ti), .sl .fro (ts.map .str)]]⟩), (0, ⟨5, true, [.agg [.int .i64 a, .int .i64 b, .str c, .sl .fro (avs d), .sl .fro (e.map .str)]]⟩), (2, ⟨2, true, [.agg [.int .i64 0, .sl .ext []]]⟩)] (n + 250)) Q := by
  have hN : (∀ q, (5 = n + q) = False) ∧ (∀ q, (n + q = 5) = False) ∧ (∀ q, (0 = n + q) = False) ∧ (∀ q, (n + q = 0) = False) ∧ (∀ q, (2 = n + q) = False) ∧ (∀ q, (n + q = 2) = False) ∧ (5 = n) = False ∧ (n = 5) = False ∧ (0 = n) = False ∧ (n = 0) = False ∧ (2 = n) = False ∧ (n = 2) = False ∧ (∀ q, (n + q < n) = False) ∧ (∀ q, 5 < n + q) ∧ (∀ q, 2 < n + q) ∧ (∀ q, 0 < n + q) ∧ 5 < n ∧ 2 < n ∧ 0 < n := by
    refine ⟨?_, ?_, ?_, ?_, ?_, ?_, ?_, ?_, ?_, ?_, ?_, ?_, ?_, ?_, ?_, ?_, ?_, ?_, ?_⟩ <;> first | exact eq_false (by omega) | exact fun q => eq_false (by omega) | exact fun q => by omega | omega
  have hA1 := ao_len A
  have hA2 := ao_shut A
  have he := elem_snoc Frame.ao A
  have hset := set_snoc Frame.ao A
  have htk := take_snoc Frame.ao A
  have heM := elem_snoc Mark.av ms
  have hsetM := set_snoc Mark.av ms
  have h5 : (5 = n + 1) = False ∧ (n + 1 = 5) = False := ⟨eq_false (by omega), eq_false (by omega)⟩
  have hsl := av_len slots
  have h35 := f35 (n + 350) 5 n (n + 1) A.length ms.length slots.length (A.map Frame.ao ++ [.agg [.int .i64 fn, .int .i64 pc, .hdr n 0 slots.length, .sl .fro (avs stack), .hdr (n + 1) 0 (ms.length + 1)]]) (ms ++ [⟨1, target, slot, height, us, tk, tn, tt, ti, ts⟩]) false ⟨1, target, slot, height, us, tk, tn, tt, ti, ts⟩ fn pc stack (by simp) (he _) (by simp) (by simp) (by omega) (by omega) (by omega) (by omega) (by omega)
  simp only [List.map_append, List.map_cons, List.map_nil, Mark.av, hset] at h35
  have h36 := f36 (n + 360) 5 n (n + 1) A.length ms.length slots.length (A.map Frame.ao ++ [.agg [.int .i64 fn, .int .i64 target, .hdr n 0 slots.length, .sl .fro (avs (cutS stack height)), .hdr (n + 1) 0 (ms.length + 1)]]) (ms.map Mark.av ++ [.agg [.int .i64 1, .int .i64 target, .int .i64 slot, .int .i64 height, .sl .fro (us.map Undo.av), .int .i64 tk, .int .i64 tn, .str tt, .sl .fro (avs ti), .sl .fro (ts.map .str)]]) false fn target (cutS stack height) (by simp) (he _) (by simp) (by omega) (by omega) (by omega) (by omega)
  simp only [hset] at h36
  repeat refine AW.seq ?_
  refine AW.reg ?_
  have hF := hN
  repeat (first | refine wD1 ?_ | refine wD2 ?_ | refine wE1 ?_ | refine wE2 ?_ | (refine wE3 ?_; intro _) | (refine wE4 ?_; intro _) | refine wN ?_ | ((with_reducible show evIs _ (_ :: _) _ _); first | refine wQ ?_ | refine wF ?_ | refine wG ?_ | refine wT ?_ | refine wM ?_ | refine wS ?_ | refine wP ?_ | refine wJ ?_ | refine wX ?_ | refine wY ?_))
  clear hF
  repeat refine evDone ?_
  try (show AW _ _ _ _ _)
  have hF := hN
  refine wL (hA := h35) ?_
  clear hF
  rintro _ _ _ ⟨rfl, rfl, rfl⟩
  have hF := hN
  repeat (first | refine wD1 ?_ | refine wD2 ?_ | refine wE1 ?_ | refine wE2 ?_ | (refine wE3 ?_; intro _) | (refine wE4 ?_; intro _) | refine wN ?_ | ((with_reducible show evIs _ (_ :: _) _ _); first | refine wQ ?_ | refine wF ?_ | refine wG ?_ | refine wT ?_ | refine wM ?_ | refine wS ?_ | refine wP ?_ | refine wJ ?_ | refine wX ?_ | refine wY ?_))
  clear hF
  repeat refine evDone ?_
  try (show AW _ _ _ _ _)
  repeat refine AW.seq ?_
  refine AW.draw ?_
  by_cases hs1 : 0 ≤ slot
  · by_cases hs2 : slot < slots.length
    · have hs3 : slot.toNat < slots.length := by omega
      have hst := avs_set slots slot.toNat (Val.mk a b c d e)
      have hsl2 : (slots.set slot.toNat (Val.mk a b c d e)).length = slots.length := by simp
      simp only [Val.av] at hst
      have hF := And.intro (hs1) (And.intro (hs2) (And.intro (he) (And.intro (heM) (And.intro (hset) (hN)))))
      repeat (first | refine wD1 ?_ | refine wD2 ?_ | refine wE1 ?_ | refine wE2 ?_ | (refine wE3 ?_; intro _) | (refine wE4 ?_; intro _) | refine wN ?_ | ((with_reducible show evIs _ (_ :: _) _ _); first | refine wQ ?_ | refine wF ?_ | refine wG ?_ | refine wT ?_ | refine wM ?_ | refine wS ?_ | refine wP ?_ | refine wJ ?_ | refine wX ?_ | refine wY ?_))
      clear hF
      repeat refine evDone ?_
      try (show AW _ _ _ _ _)
      repeat refine AW.seq ?_
      refine AW.condT (by simp []) (by simp []) ?_
      repeat refine AW.seq ?_
      refine AW.draw ?_
      obtain ⟨y1, y2, y3, y4, y5, hy⟩ := elem_avs slots slot.toNat hs3
      have hF := And.intro (hs1) (And.intro (hs2) (And.intro (hs3) (And.intro (hsl) (And.intro (hst) (And.intro (hy) (And.intro (he) (And.intro (heM) (And.intro (hset) (hN)))))))))
      repeat (first | refine wD1 ?_ | refine wD2 ?_ | refine wE1 ?_ | refine wE2 ?_ | (refine wE3 ?_; intro _) | (refine wE4 ?_; intro _) | refine wN ?_ | ((with_reducible show evIs _ (_ :: _) _ _); first | refine wQ ?_ | refine wF ?_ | refine wG ?_ | refine wT ?_ | refine wM ?_ | refine wS ?_ | refine wP ?_ | refine wJ ?_ | refine wX ?_ | refine wY ?_))
      clear hF
      repeat refine evDone ?_
      try (show AW _ _ _ _ _)
      repeat refine AW.seq ?_
      refine AW.reg ?_
      have hF := And.intro (he) (And.intro (heM) (And.intro (hset) (hN)))
      repeat (first | refine wD1 ?_ | refine wD2 ?_ | refine wE1 ?_ | refine wE2 ?_ | (refine wE3 ?_; intro _) | (refine wE4 ?_; intro _) | refine wN ?_ | ((with_reducible show evIs _ (_ :: _) _ _); first | refine wQ ?_ | refine wF ?_ | refine wG ?_ | refine wT ?_ | refine wM ?_ | refine wS ?_ | refine wP ?_ | refine wJ ?_ | refine wX ?_ | refine wY ?_))
      clear hF
      repeat refine evDone ?_
      try (show AW _ _ _ _ _)
      repeat refine AW.seq ?_
      refine AW.reg ?_
      have hF := hN
      repeat (first | refine wD1 ?_ | refine wD2 ?_ | refine wE1 ?_ | refine wE2 ?_ | (refine wE3 ?_; intro _) | (refine wE4 ?_; intro _) | refine wN ?_ | ((with_reducible show evIs _ (_ :: _) _ _); first | refine wQ ?_ | refine wF ?_ | refine wG ?_ | refine wT ?_ | refine wM ?_ | refine wS ?_ | refine wP ?_ | refine wJ ?_ | refine wX ?_ | refine wY ?_))
      clear hF
      repeat refine evDone ?_
      try (show AW _ _ _ _ _)
      have hF := hN
      refine wL (hA := h36) ?_
      clear hF
      rintro _ _ _ ⟨rfl, rfl, rfl⟩
      have hF := hN
      repeat (first | refine wD1 ?_ | refine wD2 ?_ | refine wE1 ?_ | refine wE2 ?_ | (refine wE3 ?_; intro _) | (refine wE4 ?_; intro _) | refine wN ?_ | ((with_reducible show evIs _ (_ :: _) _ _); first | refine wQ ?_ | refine wF ?_ | refine wG ?_ | refine wT ?_ | refine wM ?_ | refine wS ?_ | refine wP ?_ | refine wJ ?_ | refine wX ?_ | refine wY ?_))
      clear hF
      repeat refine evDone ?_
      try (show AW _ _ _ _ _)
      repeat refine AW.seq ?_
      refine AW.reg ?_
      have hF := hN
      repeat (first | refine wD1 ?_ | refine wD2 ?_ | refine wE1 ?_ | refine wE2 ?_ | (refine wE3 ?_; intro _) | (refine wE4 ?_; intro _) | refine wN ?_ | ((with_reducible show evIs _ (_ :: _) _ _); first | refine wQ ?_ | refine wF ?_ | refine wG ?_ | refine wT ?_ | refine wM ?_ | refine wS ?_ | refine wP ?_ | refine wJ ?_ | refine wX ?_ | refine wY ?_))
      clear hF
      repeat refine evDone ?_
      try (show AW _ _ _ _ _)
      have hF := hN
      refine wC (hA := f37) ?_
      clear hF
      have hF := hN
      repeat (first | refine wD1 ?_ | refine wD2 ?_ | refine wE1 ?_ | refine wE2 ?_ | (refine wE3 ?_; intro _) | (refine wE4 ?_; intro _) | refine wN ?_ | ((with_reducible show evIs _ (_ :: _) _ _); first | refine wQ ?_ | refine wF ?_ | refine wG ?_ | refine wT ?_ | refine wM ?_ | refine wS ?_ | refine wP ?_ | refine wJ ?_ | refine wX ?_ | refine wY ?_))
      clear hF
      repeat refine evDone ?_
      try (show AW _ _ _ _ _)
      refine AW.fit (st' := mkS [(0, .hdr 5 0 (A.length + 1)), (3, .ptr 0 0 0), (4, .hdr 5 0 (A.length + 1)), (5, .ptr 2 0 0), (6, .bool true)] [(5, ⟨5, true, A.map Frame.ao ++ [.agg [.int .i64 fn, .int .i64 target, .hdr n 0 slots.length, .sl .fro (avs (cutS stack height)), .hdr (n + 1) 0 ms.length]]⟩), (n, ⟨5, false, avs (slots.set slot.toNat (Val.mk a b c d e))⟩), (n + 1, ⟨10, false, ms.map Mark.av ++ [.agg [.int .i64 1, .int .i64 target, .int .i64 slot, .int .i64 height, .sl .fro (us.map Undo.av), .int .i64 tk, .int .i64 tn, .str tt, .sl .fro (avs ti), .sl .fro (ts.map .str)]]⟩), (0, ⟨5, true, [.agg [.int .i64 a, .int .i64 b, .str c, .sl .fro (avs d), .sl .fro (e.map .str)]]⟩), (2, ⟨2, true, [.agg [.int .i64 (-1), .sl .fro []]]⟩)] (n + 400)) ?_ ?_
      · refine Fit.mk _ _ _ (by simp [hN, hsl, conv2, newEmp, convs_refl, convs, conv]) (by simp [hN, hsl, heapFit, newEmp, conv2s, conv2, convs_refl, convs, conv]) (by intro q hq; first | (simp at hq; done) | (simp at hq; omega) | (simp at hq; simp; omega))
      rw [mkS_eq]
      refine AW.fit (shutLast 5 n (n + 1) (A.map Frame.ao) fn target (slots.set slot.toNat (Val.mk a b c d e)) (cutS stack height) (ms) (ms.map Mark.av ++ [.agg [.int .i64 1, .int .i64 target, .int .i64 slot, .int .i64 height, .sl .fro (us.map Undo.av), .int .i64 tk, .int .i64 tn, .str tt, .sl .fro (avs ti), .sl .fro (ts.map .str)]]) ms.length (by simp [rowH]) (by simp [hN]) (by simp [hN]) (by simp) (by simp [Mark.av]) hA1 hA2 (by omega) (by omega) (by omega)) ?_
      refine AW.ret (hQ _ (retI (r := resT (A ++ [⟨fn, target, (slots.set slot.toNat (Val.mk a b c d e)), cutS stack height, ms⟩], noneU, true)) (by simp [setS, hs1, hs2]) ?_))
      simp [resT, noneU, Undo.av, avs, a13_res, htk, hupd, hN, resOk, resP, resV, ARes.op, R2s, R2, R1s, R1, closeOk, closeV]
    · have hF := And.intro (hs1) (And.intro (hs2) (And.intro (he) (And.intro (heM) (And.intro (hset) (hN)))))
      repeat (first | refine wD1 ?_ | refine wD2 ?_ | refine wE1 ?_ | refine wE2 ?_ | (refine wE3 ?_; intro _) | (refine wE4 ?_; intro _) | refine wN ?_ | ((with_reducible show evIs _ (_ :: _) _ _); first | refine wQ ?_ | refine wF ?_ | refine wG ?_ | refine wT ?_ | refine wM ?_ | refine wS ?_ | refine wP ?_ | refine wJ ?_ | refine wX ?_ | refine wY ?_))
      clear hF
      repeat refine evDone ?_
      try (show AW _ _ _ _ _)
      repeat refine AW.seq ?_
      refine AW.condF (by simp []) (by simp []) ?_
      refine AW.skip ?_
      show AW _ _ _ _ _
      repeat refine AW.seq ?_
      refine AW.reg ?_
      have hF := And.intro (he) (And.intro (heM) (And.intro (hset) (hN)))
      repeat (first | refine wD1 ?_ | refine wD2 ?_ | refine wE1 ?_ | refine wE2 ?_ | (refine wE3 ?_; intro _) | (refine wE4 ?_; intro _) | refine wN ?_ | ((with_reducible show evIs _ (_ :: _) _ _); first | refine wQ ?_ | refine wF ?_ | refine wG ?_ | refine wT ?_ | refine wM ?_ | refine wS ?_ | refine wP ?_ | refine wJ ?_ | refine wX ?_ | refine wY ?_))
      clear hF
      repeat refine evDone ?_
      try (show AW _ _ _ _ _)
      repeat refine AW.seq ?_
      refine AW.reg ?_
      have hF := hN
      repeat (first | refine wD1 ?_ | refine wD2 ?_ | refine wE1 ?_ | refine wE2 ?_ | (refine wE3 ?_; intro _) | (refine wE4 ?_; intro _) | refine wN ?_ | ((with_reducible show evIs _ (_ :: _) _ _); first | refine wQ ?_ | refine wF ?_ | refine wG ?_ | refine wT ?_ | refine wM ?_ | refine wS ?_ | refine wP ?_ | refine wJ ?_ | refine wX ?_ | refine wY ?_))
      clear hF
      repeat refine evDone ?_
      try (show AW _ _ _ _ _)
      have hF := hN
      refine wL (hA := h36) ?_
      clear hF
      rintro _ _ _ ⟨rfl, rfl, rfl⟩
      have hF := hN
      repeat (first | refine wD1 ?_ | refine wD2 ?_ | refine wE1 ?_ | refine wE2 ?_ | (refine wE3 ?_; intro _) | (refine wE4 ?_; intro _) | refine wN ?_ | ((with_reducible show evIs _ (_ :: _) _ _); first | refine wQ ?_ | refine wF ?_ | refine wG ?_ | refine wT ?_ | refine wM ?_ | refine wS ?_ | refine wP ?_ | refine wJ ?_ | refine wX ?_ | refine wY ?_))
      clear hF
      repeat refine evDone ?_
      try (show AW _ _ _ _ _)
      repeat refine AW.seq ?_
      refine AW.reg ?_
      have hF := hN
      repeat (first | refine wD1 ?_ | refine wD2 ?_ | refine wE1 ?_ | refine wE2 ?_ | (refine wE3 ?_; intro _) | (refine wE4 ?_; intro _) | refine wN ?_ | ((with_reducible show evIs _ (_ :: _) _ _); first | refine wQ ?_ | refine wF ?_ | refine wG ?_ | refine wT ?_ | refine wM ?_ | refine wS ?_ | refine wP ?_ | refine wJ ?_ | refine wX ?_ | refine wY ?_))
      clear hF
      repeat refine evDone ?_
      try (show AW _ _ _ _ _)
      have hF := hN
      refine wC (hA := f37) ?_
      clear hF
      have hF := hN
      repeat (first | refine wD1 ?_ | refine wD2 ?_ | refine wE1 ?_ | refine wE2 ?_ | (refine wE3 ?_; intro _) | (refine wE4 ?_; intro _) | refine wN ?_ | ((with_reducible show evIs _ (_ :: _) _ _); first | refine wQ ?_ | refine wF ?_ | refine wG ?_ | refine wT ?_ | refine wM ?_ | refine wS ?_ | refine wP ?_ | refine wJ ?_ | refine wX ?_ | refine wY ?_))
      clear hF
      repeat refine evDone ?_
      try (show AW _ _ _ _ _)
      refine AW.fit (st' := mkS [(0, .hdr 5 0 (A.length + 1)), (3, .ptr 0 0 0), (4, .hdr 5 0 (A.length + 1)), (5, .ptr 2 0 0), (6, .bool true)] [(5, ⟨5, true, A.map Frame.ao ++ [.agg [.int .i64 fn, .int .i64 target, .hdr n 0 slots.length, .sl .fro (avs (cutS stack height)), .hdr (n + 1) 0 ms.length]]⟩), (n, ⟨5, false, avs slots⟩), (n + 1, ⟨10, false, ms.map Mark.av ++ [.agg [.int .i64 1, .int .i64 target, .int .i64 slot, .int .i64 height, .sl .fro (us.map Undo.av), .int .i64 tk, .int .i64 tn, .str tt, .sl .fro (avs ti), .sl .fro (ts.map .str)]]⟩), (0, ⟨5, true, [.agg [.int .i64 a, .int .i64 b, .str c, .sl .fro (avs d), .sl .fro (e.map .str)]]⟩), (2, ⟨2, true, [.agg [.int .i64 (-1), .sl .fro []]]⟩)] (n + 400)) ?_ ?_
      · refine Fit.mk _ _ _ (by simp [hN, hsl, conv2, newEmp, convs_refl, convs, conv]) (by simp [hN, hsl, heapFit, newEmp, conv2s, conv2, convs_refl, convs, conv]) (by intro q hq; first | (simp at hq; done) | (simp at hq; omega) | (simp at hq; simp; omega))
      rw [mkS_eq]
      refine AW.fit (shutLast 5 n (n + 1) (A.map Frame.ao) fn target slots (cutS stack height) (ms) (ms.map Mark.av ++ [.agg [.int .i64 1, .int .i64 target, .int .i64 slot, .int .i64 height, .sl .fro (us.map Undo.av), .int .i64 tk, .int .i64 tn, .str tt, .sl .fro (avs ti), .sl .fro (ts.map .str)]]) ms.length (by simp [rowH]) (by simp [hN]) (by simp [hN]) (by simp) (by simp [Mark.av]) hA1 hA2 (by omega) (by omega) (by omega)) ?_
      refine AW.ret (hQ _ (retI (r := resT (A ++ [⟨fn, target, slots, cutS stack height, ms⟩], noneU, true)) (by simp [setS, hs1, hs2]) ?_))
      simp [resT, noneU, Undo.av, avs, a13_res, htk, hupd, hN, resOk, resP, resV, ARes.op, R2s, R2, R1s, R1, closeOk, closeV]
  · have hs2 : True := trivial
    have hF := And.intro (hs1) (And.intro (he) (And.intro (heM) (And.intro (hset) (hN))))
    repeat (first | refine wD1 ?_ | refine wD2 ?_ | refine wE1 ?_ | refine wE2 ?_ | (refine wE3 ?_; intro _) | (refine wE4 ?_; intro _) | refine wN ?_ | ((with_reducible show evIs _ (_ :: _) _ _); first | refine wQ ?_ | refine wF ?_ | refine wG ?_ | refine wT ?_ | refine wM ?_ | refine wS ?_ | refine wP ?_ | refine wJ ?_ | refine wX ?_ | refine wY ?_))
    clear hF
    repeat refine evDone ?_
    try (show AW _ _ _ _ _)
    repeat refine AW.seq ?_
    refine AW.condF (by simp []) (by simp []) ?_
    refine AW.skip ?_
    show AW _ _ _ _ _
    repeat refine AW.seq ?_
    refine AW.reg ?_
    have hF := And.intro (he) (And.intro (heM) (And.intro (hset) (hN)))
    repeat (first | refine wD1 ?_ | refine wD2 ?_ | refine wE1 ?_ | refine wE2 ?_ | (refine wE3 ?_; intro _) | (refine wE4 ?_; intro _) | refine wN ?_ | ((with_reducible show evIs _ (_ :: _) _ _); first | refine wQ ?_ | refine wF ?_ | refine wG ?_ | refine wT ?_ | refine wM ?_ | refine wS ?_ | refine wP ?_ | refine wJ ?_ | refine wX ?_ | refine wY ?_))
    clear hF
    repeat refine evDone ?_
    try (show AW _ _ _ _ _)
    repeat refine AW.seq ?_
    refine AW.reg ?_
    have hF := hN
    repeat (first | refine wD1 ?_ | refine wD2 ?_ | refine wE1 ?_ | refine wE2 ?_ | (refine wE3 ?_; intro _) | (refine wE4 ?_; intro _) | refine wN ?_ | ((with_reducible show evIs _ (_ :: _) _ _); first | refine wQ ?_ | refine wF ?_ | refine wG ?_ | refine wT ?_ | refine wM ?_ | refine wS ?_ | refine wP ?_ | refine wJ ?_ | refine wX ?_ | refine wY ?_))
    clear hF
    repeat refine evDone ?_
    try (show AW _ _ _ _ _)
    have hF := hN
    refine wL (hA := h36) ?_
    clear hF
    rintro _ _ _ ⟨rfl, rfl, rfl⟩
    have hF := hN
    repeat (first | refine wD1 ?_ | refine wD2 ?_ | refine wE1 ?_ | refine wE2 ?_ | (refine wE3 ?_; intro _) | (refine wE4 ?_; intro _) | refine wN ?_ | ((with_reducible show evIs _ (_ :: _) _ _); first | refine wQ ?_ | refine wF ?_ | refine wG ?_ | refine wT ?_ | refine wM ?_ | refine wS ?_ | refine wP ?_ | refine wJ ?_ | refine wX ?_ | refine wY ?_))
    clear hF
    repeat refine evDone ?_
    try (show AW _ _ _ _ _)
    repeat refine AW.seq ?_
    refine AW.reg ?_
    have hF := hN
    repeat (first | refine wD1 ?_ | refine wD2 ?_ | refine wE1 ?_ | refine wE2 ?_ | (refine wE3 ?_; intro _) | (refine wE4 ?_; intro _) | refine wN ?_ | ((with_reducible show evIs _ (_ :: _) _ _); first | refine wQ ?_ | refine wF ?_ | refine wG ?_ | refine wT ?_ | refine wM ?_ | refine wS ?_ | refine wP ?_ | refine wJ ?_ | refine wX ?_ | refine wY ?_))
    clear hF
    repeat refine evDone ?_
    try (show AW _ _ _ _ _)
    have hF := hN
    refine wC (hA := f37) ?_
    clear hF
    have hF := hN
    repeat (first | refine wD1 ?_ | refine wD2 ?_ | refine wE1 ?_ | refine wE2 ?_ | (refine wE3 ?_; intro _) | (refine wE4 ?_; intro _) | refine wN ?_ | ((with_reducible show evIs _ (_ :: _) _ _); first | refine wQ ?_ | refine wF ?_ | refine wG ?_ | refine wT ?_ | refine wM ?_ | refine wS ?_ | refine wP ?_ | refine wJ ?_ | refine wX ?_ | refine wY ?_))
    clear hF
    repeat refine evDone ?_
    try (show AW _ _ _ _ _)
    refine AW.fit (st' := mkS [(0, .hdr 5 0 (A.length + 1)), (3, .ptr 0 0 0), (4, .hdr 5 0 (A.length + 1)), (5, .ptr 2 0 0), (6, .bool true)] [(5, ⟨5, true, A.map Frame.ao ++ [.agg [.int .i64 fn, .int .i64 target, .hdr n 0 slots.length, .sl .fro (avs (cutS stack height)), .hdr (n + 1) 0 ms.length]]⟩), (n, ⟨5, false, avs slots⟩), (n + 1, ⟨10, false, ms.map Mark.av ++ [.agg [.int .i64 1, .int .i64 target, .int .i64 slot, .int .i64 height, .sl .fro (us.map Undo.av), .int .i64 tk, .int .i64 tn, .str tt, .sl .fro (avs ti), .sl .fro (ts.map .str)]]⟩), (0, ⟨5, true, [.agg [.int .i64 a, .int .i64 b, .str c, .sl .fro (avs d), .sl .fro (e.map .str)]]⟩), (2, ⟨2, true, [.agg [.int .i64 (-1), .sl .fro []]]⟩)] (n + 400)) ?_ ?_
    · refine Fit.mk _ _ _ (by simp [hN, hsl, conv2, newEmp, convs_refl, convs, conv]) (by simp [hN, hsl, heapFit, newEmp, conv2s, conv2, convs_refl, convs, conv]) (by intro q hq; first | (simp at hq; done) | (simp at hq; omega) | (simp at hq; simp; omega))
    rw [mkS_eq]
    refine AW.fit (shutLast 5 n (n + 1) (A.map Frame.ao) fn target slots (cutS stack height) (ms) (ms.map Mark.av ++ [.agg [.int .i64 1, .int .i64 target, .int .i64 slot, .int .i64 height, .sl .fro (us.map Undo.av), .int .i64 tk, .int .i64 tn, .str tt, .sl .fro (avs ti), .sl .fro (ts.map .str)]]) ms.length (by simp [rowH]) (by simp [hN]) (by simp [hN]) (by simp) (by simp [Mark.av]) hA1 hA2 (by omega) (by omega) (by omega)) ?_
    refine AW.ret (hQ _ (retI (r := resT (A ++ [⟨fn, target, slots, cutS stack height, ms⟩], noneU, true)) (by simp [setS, hs1, hs2]) ?_))
    simp [resT, noneU, Undo.av, avs, a13_res, htk, hupd, hN, resOk, resP, resV, ARes.op, R2s, R2, R1s, R1, closeOk, closeV]
end Go.Proofs.Ytafkaofaioleiaa

set_option linter.unusedSimpArgs false
set_option linter.unusedVariables false
set_option maxHeartbeats 16000000
namespace Go.Proofs.Ytafkaofaioleiaa
open Go Go.Amb Go.IntWalk

theorem t_other (A : List Frame) (ms : List Mark) (fn pc : Int) (slots stack : List Val) (kind target slot height : Int) (us : List Undo) (tk tn : Int) (tt : ByteArray) (ti : List Val) (ts : List ByteArray) (a b : Int) (c : ByteArray) (d : List Val) (e : List ByteArray) (n : Nat) (hn : 300 ≤ n) (hkA : A.length < 12) (hml : ms.length < 12) (Q : AE → St → Prop) (hQ : ∀ s, Fit s (mkS [(0, .hdr 5 0 (A.length + 1)), (3, .ptr 0 0 0), (4, .sl .ext []), (5, .ptr 2 0 0), (6, .bool false)] [(5, ⟨5, false, A.map Frame.ao ++ [Frame.ao ⟨fn, pc, slots, stack, ms⟩]⟩), (0, ⟨5, true, [.agg [.int .i64 a, .int .i64 b, .str c, .sl .fro (avs d), .sl .fro (e.map .str)]]⟩), (2, ⟨2, true, [.agg [.int .i64 0, .sl .ext []]]⟩)] (n + 900)) → Q .normal s) : AW Try.prog 110 a13_r7 (mkS [(0, .hdr 5 0 (A.length + 1)), (3, .ptr 0 0 0), (4, .sl .ext []), (5, .ptr 2 0 0), (6, .bool false), (7, .ptr 5 A.length 0), (8, .ptr (n + 1) ms.length 0), (34, .int .i64 kind)] [(5, ⟨5, true, A.map Frame.ao ++ [.agg [.int .i64 fn, .int .i64 pc, .hdr n 0 slots.length, .sl .fro (avs stack), .hdr (n + 1) 0 (ms.length + 1)]]⟩), (n, ⟨5, false, avs slots⟩), (n + 1, ⟨10, false, ms.map Mark.av ++ [.agg [.int .i64 kind, .int .i64 target, .int .i64 slot, .int .i64 height, .sl .fro (us.map Undo.av), .int .i64 tk, .int .i64 tn, .str tt, .sl .fro (avs ti), .sl .fro (ts.map .str)]]⟩), (0, ⟨5, true, [.agg [.int .i64 a, .int .i64 b, .str c, .sl .fro (avs d), .sl .fro (e.map .str)]]⟩), (2, ⟨2, true, [.agg [.int .i64 0, .sl .ext []]]⟩)] (n + 250)) Q := by
  have hN : (∀ q, (5 = n + q) = False) ∧ (∀ q, (n + q = 5) = False) ∧ (∀ q, (0 = n + q) = False) ∧ (∀ q, (n + q = 0) = False) ∧ (∀ q, (2 = n + q) = False) ∧ (∀ q, (n + q = 2) = False) ∧ (5 = n) = False ∧ (n = 5) = False ∧ (0 = n) = False ∧ (n = 0) = False ∧ (2 = n) = False ∧ (n = 2) = False ∧ (∀ q, (n + q < n) = False) ∧ (∀ q, 5 < n + q) ∧ (∀ q, 2 < n + q) ∧ (∀ q, 0 < n + q) ∧ 5 < n ∧ 2 < n ∧ 0 < n := by
    refine ⟨?_, ?_, ?_, ?_, ?_, ?_, ?_, ?_, ?_, ?_, ?_, ?_, ?_, ?_, ?_, ?_, ?_, ?_, ?_⟩ <;> first | exact eq_false (by omega) | exact fun q => eq_false (by omega) | exact fun q => by omega | omega
  have hA1 := ao_len A
  have hA2 := ao_shut A
  have he := elem_snoc Frame.ao A
  have hset := set_snoc Frame.ao A
  have htk := take_snoc Frame.ao A
  have heM := elem_snoc Mark.av ms
  have hsetM := set_snoc Mark.av ms
  have h5 : (5 = n + 1) = False ∧ (n + 1 = 5) = False := ⟨eq_false (by omega), eq_false (by omega)⟩
  have hsl := av_len slots
  have h6 : (∀ q, (n = n + 250 + q) = False) ∧ (∀ q, (n + 250 + q = n) = False) := ⟨fun q => eq_false (by omega), fun q => eq_false (by omega)⟩
  have h36 := f36 (n + 360) 5 n (n + 1) A.length ms.length slots.length (A.map Frame.ao ++ [.agg [.int .i64 fn, .int .i64 pc, .hdr n 0 slots.length, .sl .fro (avs stack), .hdr (n + 1) 0 (ms.length + 1)]]) (ms.map Mark.av ++ [.agg [.int .i64 kind, .int .i64 target, .int .i64 slot, .int .i64 height, .sl .fro (us.map Undo.av), .int .i64 tk, .int .i64 tn, .str tt, .sl .fro (avs ti), .sl .fro (ts.map .str)]]) false fn pc stack (by simp) (he _) (by simp) (by omega) (by omega) (by omega) (by omega)
  simp only [hset] at h36
  repeat refine AW.seq ?_
  refine AW.reg ?_
  have hF := hN
  repeat (first | refine wD1 ?_ | refine wD2 ?_ | refine wE1 ?_ | refine wE2 ?_ | (refine wE3 ?_; intro _) | (refine wE4 ?_; intro _) | refine wN ?_ | ((with_reducible show evIs _ (_ :: _) _ _); first | refine wQ ?_ | refine wF ?_ | refine wG ?_ | refine wT ?_ | refine wM ?_ | refine wS ?_ | refine wP ?_ | refine wJ ?_ | refine wX ?_ | refine wY ?_))
  clear hF
  repeat refine evDone ?_
  try (show AW _ _ _ _ _)
  have hF := hN
  refine wL (hA := h36) ?_
  clear hF
  rintro _ _ _ ⟨rfl, rfl, rfl⟩
  have hF := hN
  repeat (first | refine wD1 ?_ | refine wD2 ?_ | refine wE1 ?_ | refine wE2 ?_ | (refine wE3 ?_; intro _) | (refine wE4 ?_; intro _) | refine wN ?_ | ((with_reducible show evIs _ (_ :: _) _ _); first | refine wQ ?_ | refine wF ?_ | refine wG ?_ | refine wT ?_ | refine wM ?_ | refine wS ?_ | refine wP ?_ | refine wJ ?_ | refine wX ?_ | refine wY ?_))
  clear hF
  repeat refine evDone ?_
  try (show AW _ _ _ _ _)
  refine hQ _ ?_
  refine Fit.then (b := mkS [(0, .hdr 5 0 (A.length + 1)), (3, .ptr 0 0 0), (4, .sl .ext []), (5, .ptr 2 0 0), (6, .bool false)] [(5, ⟨5, true, A.map Frame.ao ++ [.agg [.int .i64 fn, .int .i64 pc, .hdr n 0 slots.length, .sl .fro (avs stack), .hdr (n + 1) 0 ms.length]]⟩), (n, ⟨5, false, avs slots⟩), (n + 1, ⟨10, false, ms.map Mark.av ++ [.agg [.int .i64 kind, .int .i64 target, .int .i64 slot, .int .i64 height, .sl .fro (us.map Undo.av), .int .i64 tk, .int .i64 tn, .str tt, .sl .fro (avs ti), .sl .fro (ts.map .str)]]⟩), (0, ⟨5, true, [.agg [.int .i64 a, .int .i64 b, .str c, .sl .fro (avs d), .sl .fro (e.map .str)]]⟩), (2, ⟨2, true, [.agg [.int .i64 0, .sl .ext []]]⟩)] (n + 400)) ?_ ?_
  · refine Fit.mk _ _ _ (by simp [hN, h6, conv2, newEmp, convs_refl, convs, conv]) (by simp [hN, h6, heapFit, newEmp, conv2s, conv2, convs_refl, convs, conv]) (by intro q hq; first | (simp at hq; done) | (simp at hq; omega) | (simp at hq; simp; omega))
  rw [mkS_eq]
  refine Fit.then (shutLast 5 n (n + 1) (A.map Frame.ao) fn pc slots stack (ms) (ms.map Mark.av ++ [.agg [.int .i64 kind, .int .i64 target, .int .i64 slot, .int .i64 height, .sl .fro (us.map Undo.av), .int .i64 tk, .int .i64 tn, .str tt, .sl .fro (avs ti), .sl .fro (ts.map .str)]]) ms.length (by simp [rowH]) (by simp [hN, h6]) (by simp [hN, h6]) (by simp) (by simp [Mark.av]) hA1 hA2 (by omega) (by omega) (by omega)) ?_
  refine Fit.mk _ _ _ (by simp [hupd, hN, h6, conv2, newEmp, convs_refl, convs, conv]) (by simp [hupd, hN, h6, heapFit, newEmp, conv2s, conv2, convs_refl, convs, conv]) (by intro q hq; first | (simp at hq; done) | (simp at hq; omega) | (simp at hq; simp; omega))
theorem t_end (A : List Frame) (ms : List Mark) (fn pc : Int) (slots stack : List Val) (kind target slot height : Int) (tk tn : Int) (tt : ByteArray) (ti : List Val) (ts : List ByteArray) (a b : Int) (c : ByteArray) (d : List Val) (e : List ByteArray) (n : Nat) (hn : 300 ≤ n) (hkA : A.length < 12) (hml : ms.length < 12) (Q : AE → St → Prop) (hQ : ∀ s, Fit s (mkS [(0, .hdr 5 0 (A.length + 1)), (3, .ptr 0 0 0), (4, .sl .ext []), (5, .ptr 2 0 0), (6, .bool false)] [(5, ⟨5, false, A.map Frame.ao ++ [Frame.ao ⟨fn, pc, slots, stack, ms⟩]⟩), (0, ⟨5, true, [.agg [.int .i64 tk, .int .i64 tn, .str tt, .sl .fro (avs ti), .sl .fro (ts.map .str)]]⟩), (2, ⟨2, true, [.agg [.int .i64 0, .sl .ext []]]⟩)] (n + 900)) → Q .normal s) : AW Try.prog 110 nextC (mkS [(0, .hdr 5 0 (A.length + 1)), (3, .ptr 0 0 0), (4, .sl .ext []), (5, .ptr 2 0 0), (6, .bool false), (7, .ptr 5 A.length 0), (8, .ptr (n + 1) ms.length 0)] [(5, ⟨5, true, A.map Frame.ao ++ [.agg [.int .i64 fn, .int .i64 pc, .hdr n 0 slots.length, .sl .fro (avs stack), .hdr (n + 1) 0 (ms.length + 1)]]⟩), (n, ⟨5, false, avs slots⟩), (n + 1, ⟨10, false, ms.map Mark.av ++ [.agg [.int .i64 3, .int .i64 target, .int .i64 slot, .int .i64 height, .sl .fro ([]), .int .i64 tk, .int .i64 tn, .str tt, .sl .fro (avs ti), .sl .fro (ts.map .str)]]⟩), (0, ⟨5, true, [.agg [.int .i64 a, .int .i64 b, .str c, .sl .fro (avs d), .sl .fro (e.map .str)]]⟩), (2, ⟨2, true, [.agg [.int .i64 0, .sl .ext []]]⟩)] (n + 250)) Q := by
  have hN : (∀ q, (5 = n + q) = False) ∧ (∀ q, (n + q = 5) = False) ∧ (∀ q, (0 = n + q) = False) ∧ (∀ q, (n + q = 0) = False) ∧ (∀ q, (2 = n + q) = False) ∧ (∀ q, (n + q = 2) = False) ∧ (5 = n) = False ∧ (n = 5) = False ∧ (0 = n) = False ∧ (n = 0) = False ∧ (2 = n) = False ∧ (n = 2) = False ∧ (∀ q, (n + q < n) = False) ∧ (∀ q, 5 < n + q) ∧ (∀ q, 2 < n + q) ∧ (∀ q, 0 < n + q) ∧ 5 < n ∧ 2 < n ∧ 0 < n := by
    refine ⟨?_, ?_, ?_, ?_, ?_, ?_, ?_, ?_, ?_, ?_, ?_, ?_, ?_, ?_, ?_, ?_, ?_, ?_, ?_⟩ <;> first | exact eq_false (by omega) | exact fun q => eq_false (by omega) | exact fun q => by omega | omega
  have hA1 := ao_len A
  have hA2 := ao_shut A
  have he := elem_snoc Frame.ao A
  have hset := set_snoc Frame.ao A
  have htk := take_snoc Frame.ao A
  have heM := elem_snoc Mark.av ms
  have hsetM := set_snoc Mark.av ms
  have h5 : (5 = n + 1) = False ∧ (n + 1 = 5) = False := ⟨eq_false (by omega), eq_false (by omega)⟩
  have hsl := av_len slots
  have h6 : (∀ q, (n = n + 250 + q) = False) ∧ (∀ q, (n + 250 + q = n) = False) := ⟨fun q => eq_false (by omega), fun q => eq_false (by omega)⟩
  have h38 := f38_end (n + 500) 5 n (n + 1) A.length ms.length slots.length (A.map Frame.ao ++ [.agg [.int .i64 fn, .int .i64 pc, .hdr n 0 slots.length, .sl .fro (avs stack), .hdr (n + 1) 0 (ms.length + 1)]]) (ms ++ [⟨3, target, slot, height, [], tk, tn, tt, ti, ts⟩]) ⟨3, target, slot, height, [], tk, tn, tt, ti, ts⟩ fn pc stack (by simp) (he _) (by simp) (by simp) rfl (by omega) (by omega) (by omega) (by omega) (by omega) rfl
  simp only [List.map_append, List.map_cons, List.map_nil, Mark.av, hset, hsetM] at h38
  repeat refine AW.seq ?_
  refine AW.reg ?_
  have hF := hN
  repeat (first | refine wD1 ?_ | refine wD2 ?_ | refine wE1 ?_ | refine wE2 ?_ | (refine wE3 ?_; intro _) | (refine wE4 ?_; intro _) | refine wN ?_ | ((with_reducible show evIs _ (_ :: _) _ _); first | refine wQ ?_ | refine wF ?_ | refine wG ?_ | refine wT ?_ | refine wM ?_ | refine wS ?_ | refine wP ?_ | refine wJ ?_ | refine wX ?_ | refine wY ?_))
  clear hF
  repeat refine evDone ?_
  try (show AW _ _ _ _ _)
  have hF := hN
  refine wL (hA := h38) ?_
  clear hF
  rintro _ _ _ ⟨rfl, rfl, rfl⟩
  have hF := hN
  repeat (first | refine wD1 ?_ | refine wD2 ?_ | refine wE1 ?_ | refine wE2 ?_ | (refine wE3 ?_; intro _) | (refine wE4 ?_; intro _) | refine wN ?_ | ((with_reducible show evIs _ (_ :: _) _ _); first | refine wQ ?_ | refine wF ?_ | refine wG ?_ | refine wT ?_ | refine wM ?_ | refine wS ?_ | refine wP ?_ | refine wJ ?_ | refine wX ?_ | refine wY ?_))
  clear hF
  repeat refine evDone ?_
  try (show AW _ _ _ _ _)
  repeat refine AW.seq ?_
  refine AW.reg ?_
  have hF := hN
  repeat (first | refine wD1 ?_ | refine wD2 ?_ | refine wE1 ?_ | refine wE2 ?_ | (refine wE3 ?_; intro _) | (refine wE4 ?_; intro _) | refine wN ?_ | ((with_reducible show evIs _ (_ :: _) _ _); first | refine wQ ?_ | refine wF ?_ | refine wG ?_ | refine wT ?_ | refine wM ?_ | refine wS ?_ | refine wP ?_ | refine wJ ?_ | refine wX ?_ | refine wY ?_))
  clear hF
  repeat refine evDone ?_
  try (show AW _ _ _ _ _)
  repeat refine AW.seq ?_
  refine AW.condF (by simp []) (by simp []) ?_
  refine AW.skip ?_
  show AW _ _ _ _ _
  repeat refine AW.seq ?_
  refine AW.reg ?_
  have hF := hN
  repeat (first | refine wD1 ?_ | refine wD2 ?_ | refine wE1 ?_ | refine wE2 ?_ | (refine wE3 ?_; intro _) | (refine wE4 ?_; intro _) | refine wN ?_ | ((with_reducible show evIs _ (_ :: _) _ _); first | refine wQ ?_ | refine wF ?_ | refine wG ?_ | refine wT ?_ | refine wM ?_ | refine wS ?_ | refine wP ?_ | refine wJ ?_ | refine wX ?_ | refine wY ?_))
  clear hF
  repeat refine evDone ?_
  try (show AW _ _ _ _ _)
  refine hQ _ ?_
  refine Fit.then (b := mkS [(0, .hdr 5 0 (A.length + 1)), (3, .ptr 0 0 0), (4, .sl .ext []), (5, .ptr 2 0 0), (6, .bool false)] [(5, ⟨5, true, A.map Frame.ao ++ [.agg [.int .i64 fn, .int .i64 pc, .hdr n 0 slots.length, .sl .fro (avs stack), .hdr (n + 1) 0 ms.length]]⟩), (n, ⟨5, false, avs slots⟩), (n + 1, ⟨10, false, ms.map Mark.av ++ [.agg [.int .i64 3, .int .i64 target, .int .i64 slot, .int .i64 height, .sl .fro ([]), .int .i64 tk, .int .i64 tn, .str tt, .sl .fro (avs ti), .sl .fro (ts.map .str)]]⟩), (0, ⟨5, true, [.agg [.int .i64 tk, .int .i64 tn, .str tt, .sl .fro (avs ti), .sl .fro (ts.map .str)]]⟩), (2, ⟨2, true, [.agg [.int .i64 0, .sl .ext []]]⟩)] (n + 800)) ?_ ?_
  · refine Fit.mk _ _ _ (by simp [hN, h6, conv2, newEmp, convs_refl, convs, conv]) (by simp [hN, h6, heapFit, newEmp, conv2s, conv2, convs_refl, convs, conv]) (by intro q hq; first | (simp at hq; done) | (simp at hq; omega) | (simp at hq; simp; omega))
  rw [mkS_eq]
  refine Fit.then (shutLast 5 n (n + 1) (A.map Frame.ao) fn pc slots stack (ms) (ms.map Mark.av ++ [.agg [.int .i64 3, .int .i64 target, .int .i64 slot, .int .i64 height, .sl .fro ([]), .int .i64 tk, .int .i64 tn, .str tt, .sl .fro (avs ti), .sl .fro (ts.map .str)]]) ms.length (by simp [rowH]) (by simp [hN, h6]) (by simp [hN, h6]) (by simp) (by simp [Mark.av]) hA1 hA2 (by omega) (by omega) (by omega)) ?_
  refine Fit.mk _ _ _ (by simp [hupd, hN, h6, conv2, newEmp, convs_refl, convs, conv]) (by simp [hupd, hN, h6, heapFit, newEmp, conv2s, conv2, convs_refl, convs, conv]) (by intro q hq; first | (simp at hq; done) | (simp at hq; omega) | (simp at hq; simp; omega))
theorem t_undo (A : List Frame) (ms : List Mark) (fn pc : Int) (slots stack : List Val) (kind target slot height : Int) (us : List Undo) (tk tn : Int) (tt : ByteArray) (ti : List Val) (ts : List ByteArray) (a b : Int) (c : ByteArray) (d : List Val) (e : List ByteArray) (n : Nat) (hn : 300 ≤ n) (hkA : A.length < 12) (hml : ms.length < 12) (Q : AE → St → Prop) (w : Undo) (hp : us.length < 10000000000000) (hQ : ∀ s, retQ a13_res (· = resT (A ++ [⟨fn, pc, slots, stack, ms ++ [⟨3, target, slot, height, us, tk, tn, tt, ti, ts⟩]⟩], w, true)) .ret s → Q .ret s) : AW Try.prog 110 nextC (mkS [(0, .hdr 5 0 (A.length + 1)), (3, .ptr 0 0 0), (4, .sl .ext []), (5, .ptr 2 0 0), (6, .bool false), (7, .ptr 5 A.length 0), (8, .ptr (n + 1) ms.length 0)] [(5, ⟨5, true, A.map Frame.ao ++ [.agg [.int .i64 fn, .int .i64 pc, .hdr n 0 slots.length, .sl .fro (avs stack), .hdr (n + 1) 0 (ms.length + 1)]]⟩), (n, ⟨5, false, avs slots⟩), (n + 1, ⟨10, false, ms.map Mark.av ++ [.agg [.int .i64 3, .int .i64 target, .int .i64 slot, .int .i64 height, .sl .fro (us.map Undo.av ++ [w.av]), .int .i64 tk, .int .i64 tn, .str tt, .sl .fro (avs ti), .sl .fro (ts.map .str)]]⟩), (0, ⟨5, true, [.agg [.int .i64 a, .int .i64 b, .str c, .sl .fro (avs d), .sl .fro (e.map .str)]]⟩), (2, ⟨2, true, [.agg [.int .i64 0, .sl .ext []]]⟩)] (n + 250)) Q := by
  have hN : (∀ q, (5 = n + q) = False) ∧ (∀ q, (n + q = 5) = False) ∧ (∀ q, (0 = n + q) = False) ∧ (∀ q, (n + q = 0) = False) ∧ (∀ q, (2 = n + q) = False) ∧ (∀ q, (n + q = 2) = False) ∧ (5 = n) = False ∧ (n = 5) = False ∧ (0 = n) = False ∧ (n = 0) = False ∧ (2 = n) = False ∧ (n = 2) = False ∧ (∀ q, (n + q < n) = False) ∧ (∀ q, 5 < n + q) ∧ (∀ q, 2 < n + q) ∧ (∀ q, 0 < n + q) ∧ 5 < n ∧ 2 < n ∧ 0 < n := by
    refine ⟨?_, ?_, ?_, ?_, ?_, ?_, ?_, ?_, ?_, ?_, ?_, ?_, ?_, ?_, ?_, ?_, ?_, ?_, ?_⟩ <;> first | exact eq_false (by omega) | exact fun q => eq_false (by omega) | exact fun q => by omega | omega
  have hA1 := ao_len A
  have hA2 := ao_shut A
  have he := elem_snoc Frame.ao A
  have hset := set_snoc Frame.ao A
  have htk := take_snoc Frame.ao A
  have heM := elem_snoc Mark.av ms
  have hsetM := set_snoc Mark.av ms
  have h5 : (5 = n + 1) = False ∧ (n + 1 = 5) = False := ⟨eq_false (by omega), eq_false (by omega)⟩
  have hsl := av_len slots
  have h6 : (∀ q, (n = n + 250 + q) = False) ∧ (∀ q, (n + 250 + q = n) = False) := ⟨fun q => eq_false (by omega), fun q => eq_false (by omega)⟩
  have h38 := f38_undo (n + 500) 5 n (n + 1) A.length ms.length slots.length (A.map Frame.ao ++ [.agg [.int .i64 fn, .int .i64 pc, .hdr n 0 slots.length, .sl .fro (avs stack), .hdr (n + 1) 0 (ms.length + 1)]]) (ms ++ [⟨3, target, slot, height, us ++ [w], tk, tn, tt, ti, ts⟩]) ⟨3, target, slot, height, us ++ [w], tk, tn, tt, ti, ts⟩ fn pc stack (by simp) (he _) (by simp) (by simp) us.length w (by simp) (by simp) hp (by omega) (by omega) (by omega) (by omega) (by omega) rfl
  obtain ⟨wf, wa⟩ := w
  have htm := take_snoc Mark.av ms
  simp only [List.map_append, List.map_cons, List.map_nil, Mark.av, Undo.av, hset, hsetM, List.take_left] at h38 ⊢
  repeat refine AW.seq ?_
  refine AW.reg ?_
  have hF := hN
  repeat (first | refine wD1 ?_ | refine wD2 ?_ | refine wE1 ?_ | refine wE2 ?_ | (refine wE3 ?_; intro _) | (refine wE4 ?_; intro _) | refine wN ?_ | ((with_reducible show evIs _ (_ :: _) _ _); first | refine wQ ?_ | refine wF ?_ | refine wG ?_ | refine wT ?_ | refine wM ?_ | refine wS ?_ | refine wP ?_ | refine wJ ?_ | refine wX ?_ | refine wY ?_))
  clear hF
  repeat refine evDone ?_
  try (show AW _ _ _ _ _)
  have hF := hN
  refine wL (hA := h38) ?_
  clear hF
  rintro _ _ _ ⟨rfl, rfl, rfl⟩
  have hF := hN
  repeat (first | refine wD1 ?_ | refine wD2 ?_ | refine wE1 ?_ | refine wE2 ?_ | (refine wE3 ?_; intro _) | (refine wE4 ?_; intro _) | refine wN ?_ | ((with_reducible show evIs _ (_ :: _) _ _); first | refine wQ ?_ | refine wF ?_ | refine wG ?_ | refine wT ?_ | refine wM ?_ | refine wS ?_ | refine wP ?_ | refine wJ ?_ | refine wX ?_ | refine wY ?_))
  clear hF
  repeat refine evDone ?_
  try (show AW _ _ _ _ _)
  repeat refine AW.seq ?_
  refine AW.reg ?_
  have hF := hN
  repeat (first | refine wD1 ?_ | refine wD2 ?_ | refine wE1 ?_ | refine wE2 ?_ | (refine wE3 ?_; intro _) | (refine wE4 ?_; intro _) | refine wN ?_ | ((with_reducible show evIs _ (_ :: _) _ _); first | refine wQ ?_ | refine wF ?_ | refine wG ?_ | refine wT ?_ | refine wM ?_ | refine wS ?_ | refine wP ?_ | refine wJ ?_ | refine wX ?_ | refine wY ?_))
  clear hF
  repeat refine evDone ?_
  try (show AW _ _ _ _ _)
  repeat refine AW.seq ?_
  refine AW.condT (by simp []) (by simp []) ?_
  repeat refine AW.seq ?_
  refine AW.draw ?_
  have hF := hN
  repeat (first | refine wD1 ?_ | refine wD2 ?_ | refine wE1 ?_ | refine wE2 ?_ | (refine wE3 ?_; intro _) | (refine wE4 ?_; intro _) | refine wN ?_ | ((with_reducible show evIs _ (_ :: _) _ _); first | refine wQ ?_ | refine wF ?_ | refine wG ?_ | refine wT ?_ | refine wM ?_ | refine wS ?_ | refine wP ?_ | refine wJ ?_ | refine wX ?_ | refine wY ?_))
  clear hF
  repeat refine evDone ?_
  try (show AW _ _ _ _ _)
  refine AW.fit (st' := mkS [(0, .hdr 5 0 (A.length + 1)), (3, .ptr 0 0 0), (4, .hdr 5 0 (A.length + 1)), (5, .ptr 2 0 0), (6, .bool true)] [(5, ⟨5, true, A.map Frame.ao ++ [.agg [.int .i64 fn, .int .i64 pc, .hdr n 0 slots.length, .sl .fro (avs stack), .hdr (n + 1) 0 (ms.length + 1)]]⟩), (n, ⟨5, false, avs slots⟩), (n + 1, ⟨10, false, ms.map Mark.av ++ [.agg [.int .i64 3, .int .i64 target, .int .i64 slot, .int .i64 height, .sl .fro (us.map Undo.av), .int .i64 tk, .int .i64 tn, .str tt, .sl .fro (avs ti), .sl .fro (ts.map .str)]]⟩), (0, ⟨5, true, [.agg [.int .i64 a, .int .i64 b, .str c, .sl .fro (avs d), .sl .fro (e.map .str)]]⟩), (2, ⟨2, true, [.agg [.int .i64 wf, .sl .fro (avs wa)]]⟩)] (n + 800)) ?_ ?_
  · refine Fit.mk _ _ _ (by simp [hN, h6, conv2, newEmp, convs_refl, convs, conv]) (by simp [hN, h6, heapFit, newEmp, conv2s, conv2, convs_refl, convs, conv]) (by intro q hq; first | (simp at hq; done) | (simp at hq; omega) | (simp at hq; simp; omega))
  rw [mkS_eq]
  refine AW.fit (shutLast 5 n (n + 1) (A.map Frame.ao) fn pc slots stack (ms ++ [⟨3, target, slot, height, us, tk, tn, tt, ti, ts⟩]) (ms.map Mark.av ++ [.agg [.int .i64 3, .int .i64 target, .int .i64 slot, .int .i64 height, .sl .fro (us.map Undo.av), .int .i64 tk, .int .i64 tn, .str tt, .sl .fro (avs ti), .sl .fro (ts.map .str)]]) (ms.length + 1) (by simp [rowH]) (by simp [hN, h6]) (by simp [hN, h6]) (by simp) (by simp [Mark.av, htm]) hA1 hA2 (by omega) (by omega) (by omega)) ?_
  refine AW.ret (hQ _ (retI (r := resT (A ++ [⟨fn, pc, slots, stack, ms ++ [⟨3, target, slot, height, us, tk, tn, tt, ti, ts⟩]⟩], ⟨wf, wa⟩, true)) rfl ?_))
  simp [resT, noneU, Undo.av, avs, a13_res, htk, hupd, hN, h6, resOk, resP, resV, ARes.op, R2s, R2, R1s, R1, closeOk, closeV]
end Go.Proofs.Ytafkaofaioleiaa

set_option linter.unusedSimpArgs false
set_option linter.unusedVariables false
set_option maxHeartbeats 16000000
namespace Go.Proofs.Ytafkaofaioleiaa
open Go Go.Amb Go.IntWalk

def sagaC : ACode := (.seq a13_r17 (.seq (.seq a13_r18 (.cond (.t 90) a13_r19 .skip)) nextC))
theorem t_saga2 (A : List Frame) (ms : List Mark) (fn pc : Int) (slots stack : List Val) (kind target slot height : Int) (us : List Undo) (tk tn : Int) (tt : ByteArray) (ti : List Val) (ts : List ByteArray) (a b : Int) (c : ByteArray) (d : List Val) (e : List ByteArray) (n : Nat) (hn : 300 ≤ n) (hkA : A.length < 12) (hml : ms.length < 12) (Q : AE → St → Prop) (hC : AW Try.prog 110 nextC (mkS [(0, .hdr 5 0 (A.length + 1)), (3, .ptr 0 0 0), (4, .sl .ext []), (5, .ptr 2 0 0), (6, .bool false), (7, .ptr 5 A.length 0), (8, .ptr (n + 1) ms.length 0)] [(5, ⟨5, true, A.map Frame.ao ++ [.agg [.int .i64 fn, .int .i64 pc, .hdr n 0 slots.length, .sl .fro (avs (cutS stack height)), .hdr (n + 1) 0 (ms.length + 1)]]⟩), (n, ⟨5, false, avs slots⟩), (n + 1, ⟨10, false, ms.map Mark.av ++ [.agg [.int .i64 3, .int .i64 target, .int .i64 slot, .int .i64 height, .sl .fro (us.map Undo.av), .int .i64 a, .int .i64 b, .str c, .sl .fro (avs d), .sl .fro (e.map .str)]]⟩), (0, ⟨5, true, [.agg [.int .i64 a, .int .i64 b, .str c, .sl .fro (avs d), .sl .fro (e.map .str)]]⟩), (2, ⟨2, true, [.agg [.int .i64 0, .sl .ext []]]⟩)] (n + 250)) Q) : AW Try.prog 110 sagaC (mkS [(0, .hdr 5 0 (A.length + 1)), (3, .ptr 0 0 0), (4, .sl .ext []), (5, .ptr 2 0 0), (6, .bool false), (7, .ptr 5 A.length 0), (8, .ptr (n + 1) ms.length 0), (34, .int .i64 2)] [(5, ⟨5, true, A.map Frame.ao ++ [.agg [.int .i64 fn, .int .i64 pc, .hdr n 0 slots.length, .sl .fro (avs stack), .hdr (n + 1) 0 (ms.length + 1)]]⟩), (n, ⟨5, false, avs slots⟩), (n + 1, ⟨10, false, ms.map Mark.av ++ [.agg [.int .i64 2, .int .i64 target, .int .i64 slot, .int .i64 height, .sl .fro (us.map Undo.av), .int .i64 tk, .int .i64 tn, .str tt, .sl .fro (avs ti), .sl .fro (ts.map .str)]]⟩), (0, ⟨5, true, [.agg [.int .i64 a, .int .i64 b, .str c, .sl .fro (avs d), .sl .fro (e.map .str)]]⟩), (2, ⟨2, true, [.agg [.int .i64 0, .sl .ext []]]⟩)] (n + 250)) Q := by
  have hN : (∀ q, (5 = n + q) = False) ∧ (∀ q, (n + q = 5) = False) ∧ (∀ q, (0 = n + q) = False) ∧ (∀ q, (n + q = 0) = False) ∧ (∀ q, (2 = n + q) = False) ∧ (∀ q, (n + q = 2) = False) ∧ (5 = n) = False ∧ (n = 5) = False ∧ (0 = n) = False ∧ (n = 0) = False ∧ (2 = n) = False ∧ (n = 2) = False ∧ (∀ q, (n + q < n) = False) ∧ (∀ q, 5 < n + q) ∧ (∀ q, 2 < n + q) ∧ (∀ q, 0 < n + q) ∧ 5 < n ∧ 2 < n ∧ 0 < n := by
    refine ⟨?_, ?_, ?_, ?_, ?_, ?_, ?_, ?_, ?_, ?_, ?_, ?_, ?_, ?_, ?_, ?_, ?_, ?_, ?_⟩ <;> first | exact eq_false (by omega) | exact fun q => eq_false (by omega) | exact fun q => by omega | omega
  have hA1 := ao_len A
  have hA2 := ao_shut A
  have he := elem_snoc Frame.ao A
  have hset := set_snoc Frame.ao A
  have htk := take_snoc Frame.ao A
  have heM := elem_snoc Mark.av ms
  have hsetM := set_snoc Mark.av ms
  have h5 : (5 = n + 1) = False ∧ (n + 1 = 5) = False := ⟨eq_false (by omega), eq_false (by omega)⟩
  have hsl := av_len slots
  have h6 : (∀ q, (n = n + 250 + q) = False) ∧ (∀ q, (n + 250 + q = n) = False) := ⟨fun q => eq_false (by omega), fun q => eq_false (by omega)⟩
  have h35 := f35 (n + 350) 5 n (n + 1) A.length ms.length slots.length (A.map Frame.ao ++ [.agg [.int .i64 fn, .int .i64 pc, .hdr n 0 slots.length, .sl .fro (avs stack), .hdr (n + 1) 0 (ms.length + 1)]]) (ms ++ [⟨2, target, slot, height, us, tk, tn, tt, ti, ts⟩]) false ⟨2, target, slot, height, us, tk, tn, tt, ti, ts⟩ fn pc stack (by simp) (he _) (by simp) (by simp) (by omega) (by omega) (by omega) (by omega) (by omega)
  simp only [List.map_append, List.map_cons, List.map_nil, Mark.av, hset] at h35
  repeat refine AW.seq ?_
  refine AW.reg ?_
  have hF := hN
  repeat (first | refine wD1 ?_ | refine wD2 ?_ | refine wE1 ?_ | refine wE2 ?_ | (refine wE3 ?_; intro _) | (refine wE4 ?_; intro _) | refine wN ?_ | ((with_reducible show evIs _ (_ :: _) _ _); first | refine wQ ?_ | refine wF ?_ | refine wG ?_ | refine wT ?_ | refine wM ?_ | refine wS ?_ | refine wP ?_ | refine wJ ?_ | refine wX ?_ | refine wY ?_))
  clear hF
  repeat refine evDone ?_
  try (show AW _ _ _ _ _)
  have hF := hN
  refine wL (hA := h35) ?_
  clear hF
  rintro _ _ _ ⟨rfl, rfl, rfl⟩
  have hF := hN
  repeat (first | refine wD1 ?_ | refine wD2 ?_ | refine wE1 ?_ | refine wE2 ?_ | (refine wE3 ?_; intro _) | (refine wE4 ?_; intro _) | refine wN ?_ | ((with_reducible show evIs _ (_ :: _) _ _); first | refine wQ ?_ | refine wF ?_ | refine wG ?_ | refine wT ?_ | refine wM ?_ | refine wS ?_ | refine wP ?_ | refine wJ ?_ | refine wX ?_ | refine wY ?_))
  clear hF
  repeat refine evDone ?_
  try (show AW _ _ _ _ _)
  repeat refine AW.seq ?_
  refine AW.reg ?_
  have hF := And.intro (heM) (hN)
  repeat (first | refine wD1 ?_ | refine wD2 ?_ | refine wE1 ?_ | refine wE2 ?_ | (refine wE3 ?_; intro _) | (refine wE4 ?_; intro _) | refine wN ?_ | ((with_reducible show evIs _ (_ :: _) _ _); first | refine wQ ?_ | refine wF ?_ | refine wG ?_ | refine wT ?_ | refine wM ?_ | refine wS ?_ | refine wP ?_ | refine wJ ?_ | refine wX ?_ | refine wY ?_))
  clear hF
  repeat refine evDone ?_
  try (show AW _ _ _ _ _)
  repeat refine AW.seq ?_
  refine AW.condT (by simp []) (by simp []) ?_
  repeat refine AW.seq ?_
  refine AW.draw ?_
  have hF := And.intro (heM) (And.intro (hsetM) (hN))
  repeat (first | refine wD1 ?_ | refine wD2 ?_ | refine wE1 ?_ | refine wE2 ?_ | (refine wE3 ?_; intro _) | (refine wE4 ?_; intro _) | refine wN ?_ | ((with_reducible show evIs _ (_ :: _) _ _); first | refine wQ ?_ | refine wF ?_ | refine wG ?_ | refine wT ?_ | refine wM ?_ | refine wS ?_ | refine wP ?_ | refine wJ ?_ | refine wX ?_ | refine wY ?_))
  clear hF
  repeat refine evDone ?_
  try (show AW _ _ _ _ _)
  refine AW.fit (st' := mkS [(0, .hdr 5 0 (A.length + 1)), (3, .ptr 0 0 0), (4, .sl .ext []), (5, .ptr 2 0 0), (6, .bool false), (7, .ptr 5 A.length 0), (8, .ptr (n + 1) ms.length 0)] [(5, ⟨5, true, A.map Frame.ao ++ [.agg [.int .i64 fn, .int .i64 pc, .hdr n 0 slots.length, .sl .fro (avs (cutS stack height)), .hdr (n + 1) 0 (ms.length + 1)]]⟩), (n, ⟨5, false, avs slots⟩), (n + 1, ⟨10, false, ms.map Mark.av ++ [.agg [.int .i64 3, .int .i64 target, .int .i64 slot, .int .i64 height, .sl .fro (us.map Undo.av), .int .i64 a, .int .i64 b, .str c, .sl .fro (avs d), .sl .fro (e.map .str)]]⟩), (0, ⟨5, true, [.agg [.int .i64 a, .int .i64 b, .str c, .sl .fro (avs d), .sl .fro (e.map .str)]]⟩), (2, ⟨2, true, [.agg [.int .i64 0, .sl .ext []]]⟩)] (n + 250)) ?_ hC
  refine Fit.mk _ _ _ (by simp [hsetM, hN, conv2, newEmp, convs_refl, convs, conv]) (by simp [hsetM, hN, heapFit, newEmp, conv2s, conv2, convs_refl, convs, conv]) (by intro q hq; first | (simp at hq; done) | (simp at hq; omega) | (simp at hq; simp; omega))
theorem t_saga3 (A : List Frame) (ms : List Mark) (fn pc : Int) (slots stack : List Val) (kind target slot height : Int) (us : List Undo) (tk tn : Int) (tt : ByteArray) (ti : List Val) (ts : List ByteArray) (a b : Int) (c : ByteArray) (d : List Val) (e : List ByteArray) (n : Nat) (hn : 300 ≤ n) (hkA : A.length < 12) (hml : ms.length < 12) (Q : AE → St → Prop) (hC : AW Try.prog 110 nextC (mkS [(0, .hdr 5 0 (A.length + 1)), (3, .ptr 0 0 0), (4, .sl .ext []), (5, .ptr 2 0 0), (6, .bool false), (7, .ptr 5 A.length 0), (8, .ptr (n + 1) ms.length 0)] [(5, ⟨5, true, A.map Frame.ao ++ [.agg [.int .i64 fn, .int .i64 pc, .hdr n 0 slots.length, .sl .fro (avs (cutS stack height)), .hdr (n + 1) 0 (ms.length + 1)]]⟩), (n, ⟨5, false, avs slots⟩), (n + 1, ⟨10, false, ms.map Mark.av ++ [.agg [.int .i64 3, .int .i64 target, .int .i64 slot, .int .i64 height, .sl .fro (us.map Undo.av), .int .i64 tk, .int .i64 tn, .str tt, .sl .fro (avs ti), .sl .fro (ts.map .str)]]⟩), (0, ⟨5, true, [.agg [.int .i64 a, .int .i64 b, .str c, .sl .fro (avs d), .sl .fro (e.map .str)]]⟩), (2, ⟨2, true, [.agg [.int .i64 0, .sl .ext []]]⟩)] (n + 250)) Q) : AW Try.prog 110 sagaC (mkS [(0, .hdr 5 0 (A.length + 1)), (3, .ptr 0 0 0), (4, .sl .ext []), (5, .ptr 2 0 0), (6, .bool false), (7, .ptr 5 A.length 0), (8, .ptr (n + 1) ms.length 0), (34, .int .i64 3)] [(5, ⟨5, true, A.map Frame.ao ++ [.agg [.int .i64 fn, .int .i64 pc, .hdr n 0 slots.length, .sl .fro (avs stack), .hdr (n + 1) 0 (ms.length + 1)]]⟩), (n, ⟨5, false, avs slots⟩), (n + 1, ⟨10, false, ms.map Mark.av ++ [.agg [.int .i64 3, .int .i64 target, .int .i64 slot, .int .i64 height, .sl .fro (us.map Undo.av), .int .i64 tk, .int .i64 tn, .str tt, .sl .fro (avs ti), .sl .fro (ts.map .str)]]⟩), (0, ⟨5, true, [.agg [.int .i64 a, .int .i64 b, .str c, .sl .fro (avs d), .sl .fro (e.map .str)]]⟩), (2, ⟨2, true, [.agg [.int .i64 0, .sl .ext []]]⟩)] (n + 250)) Q := by
  have hN : (∀ q, (5 = n + q) = False) ∧ (∀ q, (n + q = 5) = False) ∧ (∀ q, (0 = n + q) = False) ∧ (∀ q, (n + q = 0) = False) ∧ (∀ q, (2 = n + q) = False) ∧ (∀ q, (n + q = 2) = False) ∧ (5 = n) = False ∧ (n = 5) = False ∧ (0 = n) = False ∧ (n = 0) = False ∧ (2 = n) = False ∧ (n = 2) = False ∧ (∀ q, (n + q < n) = False) ∧ (∀ q, 5 < n + q) ∧ (∀ q, 2 < n + q) ∧ (∀ q, 0 < n + q) ∧ 5 < n ∧ 2 < n ∧ 0 < n := by
    refine ⟨?_, ?_, ?_, ?_, ?_, ?_, ?_, ?_, ?_, ?_, ?_, ?_, ?_, ?_, ?_, ?_, ?_, ?_, ?_⟩ <;> first | exact eq_false (by omega) | exact fun q => eq_false (by omega) | exact fun q => by omega | omega
  have hA1 := ao_len A
  have hA2 := ao_shut A
  have he := elem_snoc Frame.ao A
  have hset := set_snoc Frame.ao A
  have htk := take_snoc Frame.ao A
  have heM := elem_snoc Mark.av ms
  have hsetM := set_snoc Mark.av ms
  have h5 : (5 = n + 1) = False ∧ (n + 1 = 5) = False := ⟨eq_false (by omega), eq_false (by omega)⟩
  have hsl := av_len slots
  have h6 : (∀ q, (n = n + 250 + q) = False) ∧ (∀ q, (n + 250 + q = n) = False) := ⟨fun q => eq_false (by omega), fun q => eq_false (by omega)⟩
  have h35 := f35 (n + 350) 5 n (n + 1) A.length ms.length slots.length (A.map Frame.ao ++ [.agg [.int .i64 fn, .int .i64 pc, .hdr n 0 slots.length, .sl .fro (avs stack), .hdr (n + 1) 0 (ms.length + 1)]]) (ms ++ [⟨3, target, slot, height, us, tk, tn, tt, ti, ts⟩]) false ⟨3, target, slot, height, us, tk, tn, tt, ti, ts⟩ fn pc stack (by simp) (he _) (by simp) (by simp) (by omega) (by omega) (by omega) (by omega) (by omega)
  simp only [List.map_append, List.map_cons, List.map_nil, Mark.av, hset] at h35
  repeat refine AW.seq ?_
  refine AW.reg ?_
  have hF := hN
  repeat (first | refine wD1 ?_ | refine wD2 ?_ | refine wE1 ?_ | refine wE2 ?_ | (refine wE3 ?_; intro _) | (refine wE4 ?_; intro _) | refine wN ?_ | ((with_reducible show evIs _ (_ :: _) _ _); first | refine wQ ?_ | refine wF ?_ | refine wG ?_ | refine wT ?_ | refine wM ?_ | refine wS ?_ | refine wP ?_ | refine wJ ?_ | refine wX ?_ | refine wY ?_))
  clear hF
  repeat refine evDone ?_
  try (show AW _ _ _ _ _)
  have hF := hN
  refine wL (hA := h35) ?_
  clear hF
  rintro _ _ _ ⟨rfl, rfl, rfl⟩
  have hF := hN
  repeat (first | refine wD1 ?_ | refine wD2 ?_ | refine wE1 ?_ | refine wE2 ?_ | (refine wE3 ?_; intro _) | (refine wE4 ?_; intro _) | refine wN ?_ | ((with_reducible show evIs _ (_ :: _) _ _); first | refine wQ ?_ | refine wF ?_ | refine wG ?_ | refine wT ?_ | refine wM ?_ | refine wS ?_ | refine wP ?_ | refine wJ ?_ | refine wX ?_ | refine wY ?_))
  clear hF
  repeat refine evDone ?_
  try (show AW _ _ _ _ _)
  repeat refine AW.seq ?_
  refine AW.reg ?_
  have hF := And.intro (heM) (hN)
  repeat (first | refine wD1 ?_ | refine wD2 ?_ | refine wE1 ?_ | refine wE2 ?_ | (refine wE3 ?_; intro _) | (refine wE4 ?_; intro _) | refine wN ?_ | ((with_reducible show evIs _ (_ :: _) _ _); first | refine wQ ?_ | refine wF ?_ | refine wG ?_ | refine wT ?_ | refine wM ?_ | refine wS ?_ | refine wP ?_ | refine wJ ?_ | refine wX ?_ | refine wY ?_))
  clear hF
  repeat refine evDone ?_
  try (show AW _ _ _ _ _)
  repeat refine AW.seq ?_
  refine AW.condF (by simp []) (by simp []) ?_
  refine AW.skip ?_
  show AW _ _ _ _ _
  refine AW.fit (st' := mkS [(0, .hdr 5 0 (A.length + 1)), (3, .ptr 0 0 0), (4, .sl .ext []), (5, .ptr 2 0 0), (6, .bool false), (7, .ptr 5 A.length 0), (8, .ptr (n + 1) ms.length 0)] [(5, ⟨5, true, A.map Frame.ao ++ [.agg [.int .i64 fn, .int .i64 pc, .hdr n 0 slots.length, .sl .fro (avs (cutS stack height)), .hdr (n + 1) 0 (ms.length + 1)]]⟩), (n, ⟨5, false, avs slots⟩), (n + 1, ⟨10, false, ms.map Mark.av ++ [.agg [.int .i64 3, .int .i64 target, .int .i64 slot, .int .i64 height, .sl .fro (us.map Undo.av), .int .i64 tk, .int .i64 tn, .str tt, .sl .fro (avs ti), .sl .fro (ts.map .str)]]⟩), (0, ⟨5, true, [.agg [.int .i64 a, .int .i64 b, .str c, .sl .fro (avs d), .sl .fro (e.map .str)]]⟩), (2, ⟨2, true, [.agg [.int .i64 0, .sl .ext []]]⟩)] (n + 250)) ?_ hC
  refine Fit.mk _ _ _ (by simp [hsetM, hN, conv2, newEmp, convs_refl, convs, conv]) (by simp [hsetM, hN, heapFit, newEmp, conv2s, conv2, convs_refl, convs, conv]) (by intro q hq; first | (simp at hq; done) | (simp at hq; omega) | (simp at hq; simp; omega))
end Go.Proofs.Ytafkaofaioleiaa

set_option linter.unusedSimpArgs false
set_option linter.unusedVariables false
set_option maxHeartbeats 16000000
namespace Go.Proofs.Ytafkaofaioleiaa
open Go Go.Amb Go.IntWalk

theorem f13 (ls : List Frame) (v0 : Val) (hok : oks ls) (hb : ls.length ≤ 12) (hv0 : v0.okv) : ACall Try.prog 13 [.sl .fro (ls.map Frame.av), v0.av] (· = resT (throwF (szF ls + 1) ls v0)) := by
  have h32 := f32 ls (fun f hf => (hok f hf).1) (by omega)
  obtain ⟨a, b, c, d, e⟩ := v0
  have h33 := f33 a b c d e hv0
  simp only [Val.av]
  refine a13_of (by simp) ?_
  repeat refine AW.seq ?_
  refine AW.reg ?_
  have hF := True.intro
  repeat (first | refine wD1 ?_ | refine wD2 ?_ | refine wE1 ?_ | refine wE2 ?_ | (refine wE3 ?_; intro _) | (refine wE4 ?_; intro _) | refine wN ?_ | ((with_reducible show evIs _ (_ :: _) _ _); first | refine wQ ?_ | refine wF ?_ | refine wG ?_ | refine wT ?_ | refine wM ?_ | refine wS ?_ | refine wP ?_ | refine wJ ?_ | refine wX ?_ | refine wY ?_))
  clear hF
  repeat refine evDone ?_
  try (show AW _ _ _ _ _)
  repeat refine AW.seq ?_
  refine AW.draw ?_
  have hF := True.intro
  repeat (first | refine wD1 ?_ | refine wD2 ?_ | refine wE1 ?_ | refine wE2 ?_ | (refine wE3 ?_; intro _) | (refine wE4 ?_; intro _) | refine wN ?_ | ((with_reducible show evIs _ (_ :: _) _ _); first | refine wQ ?_ | refine wF ?_ | refine wG ?_ | refine wT ?_ | refine wM ?_ | refine wS ?_ | refine wP ?_ | refine wJ ?_ | refine wX ?_ | refine wY ?_))
  clear hF
  repeat refine evDone ?_
  try (show AW _ _ _ _ _)
  have hF := True.intro
  refine wA (hA := h32) ?_
  clear hF
  have hF := True.intro
  repeat (first | refine wD1 ?_ | refine wD2 ?_ | refine wE1 ?_ | refine wE2 ?_ | (refine wE3 ?_; intro _) | (refine wE4 ?_; intro _) | refine wN ?_ | ((with_reducible show evIs _ (_ :: _) _ _); first | refine wQ ?_ | refine wF ?_ | refine wG ?_ | refine wT ?_ | refine wM ?_ | refine wS ?_ | refine wP ?_ | refine wJ ?_ | refine wX ?_ | refine wY ?_))
  clear hF
  repeat refine evDone ?_
  try (show AW _ _ _ _ _)
  have hF := True.intro
  refine wC (hA := h33) ?_
  clear hF
  have hF := True.intro
  repeat (first | refine wD1 ?_ | refine wD2 ?_ | refine wE1 ?_ | refine wE2 ?_ | (refine wE3 ?_; intro _) | (refine wE4 ?_; intro _) | refine wN ?_ | ((with_reducible show evIs _ (_ :: _) _ _); first | refine wQ ?_ | refine wF ?_ | refine wG ?_ | refine wT ?_ | refine wM ?_ | refine wS ?_ | refine wP ?_ | refine wJ ?_ | refine wX ?_ | refine wY ?_))
  clear hF
  repeat refine evDone ?_
  try (show AW _ _ _ _ _)
  repeat refine AW.seq ?_
  refine AW.block ?_
  refine AW.loop (fun g : Nat × List Frame × Val × Nat => szF g.2.1 < g.1 ∧ throwF g.1 g.2.1 g.2.2.1 = throwF (szF ls + 1) ls (Val.mk a b c d e) ∧ oks g.2.1 ∧ g.2.2.1.okv ∧ g.2.1.length ≤ 12 ∧ 300 ≤ g.2.2.2) (fun g => mkS [(0, .hdr 5 0 g.2.1.length), (3, .ptr 0 0 0), (4, .sl .ext []), (5, .ptr 2 0 0), (6, .bool false)] [(5, ⟨5, false, g.2.1.map Frame.ao⟩), (0, ⟨5, true, [g.2.2.1.av]⟩), (2, ⟨2, true, [.agg [.int .i64 0, .sl .ext []]]⟩)] g.2.2.2) (fun g => g.1) (szF ls + 1, ls, Val.mk a b c d e, 300) ⟨by dsimp only; omega, rfl, hok, hv0, hb, by simp⟩ ?_ ?_
  · refine Fit.mk _ _ _ (by simp [Val.av, conv2, newEmp, convs_refl, convs, conv]) (by simp [Val.av, heapFit, newEmp, conv2s, conv2, convs_refl, convs, conv]) (by intro q hq; first | (simp at hq; done) | (simp at hq; omega) | (simp at hq; simp; omega))
  clear hv0
  generalize hTT : throwF (szF ls + 1) ls (Val.mk a b c d e) = TT
  clear hTT
  clear h32 h33 a b c d e
  rintro ⟨K, fs, ⟨a, b, c, d, e⟩, n⟩ ⟨hK, hT, hfs, hv, hlen, hn⟩
  dsimp only at hK hT hfs hv hlen hn ⊢
  simp only [Val.av]
  have hN : (∀ q, (5 = n + q) = False) ∧ (∀ q, (n + q = 5) = False) ∧ (∀ q, (0 = n + q) = False) ∧ (∀ q, (n + q = 0) = False) ∧ (∀ q, (2 = n + q) = False) ∧ (∀ q, (n + q = 2) = False) ∧ (5 = n) = False ∧ (n = 5) = False ∧ (0 = n) = False ∧ (n = 0) = False ∧ (2 = n) = False ∧ (n = 2) = False ∧ (∀ q, (n + q < n) = False) ∧ (∀ q, 5 < n + q) ∧ (∀ q, 2 < n + q) ∧ (∀ q, 0 < n + q) ∧ 5 < n ∧ 2 < n ∧ 0 < n := by
    refine ⟨?_, ?_, ?_, ?_, ?_, ?_, ?_, ?_, ?_, ?_, ?_, ?_, ?_, ?_, ?_, ?_, ?_, ?_, ?_⟩ <;> first | exact eq_false (by omega) | exact fun q => eq_false (by omega) | exact fun q => by omega | omega
  repeat refine AW.seq ?_
  refine AW.reg ?_
  rcases snoc_cases fs with rfl | ⟨A, ⟨fn, pc, slots, stack, marks⟩, rfl⟩
  · have hF := hN
    repeat (first | refine wD1 ?_ | refine wD2 ?_ | refine wE1 ?_ | refine wE2 ?_ | (refine wE3 ?_; intro _) | (refine wE4 ?_; intro _) | refine wN ?_ | ((with_reducible show evIs _ (_ :: _) _ _); first | refine wQ ?_ | refine wF ?_ | refine wG ?_ | refine wT ?_ | refine wM ?_ | refine wS ?_ | refine wP ?_ | refine wJ ?_ | refine wX ?_ | refine wY ?_))
    clear hF
    repeat refine evDone ?_
    try (show AW _ _ _ _ _)
    repeat refine AW.seq ?_
    refine AW.condF (by simp []) (by simp []) ?_
    refine AW.exit ?_
    show AW _ _ _ _ _
    repeat refine AW.seq ?_
    refine AW.reg ?_
    have hF := hN
    repeat (first | refine wD1 ?_ | refine wD2 ?_ | refine wE1 ?_ | refine wE2 ?_ | (refine wE3 ?_; intro _) | (refine wE4 ?_; intro _) | refine wN ?_ | ((with_reducible show evIs _ (_ :: _) _ _); first | refine wQ ?_ | refine wF ?_ | refine wG ?_ | refine wT ?_ | refine wM ?_ | refine wS ?_ | refine wP ?_ | refine wJ ?_ | refine wX ?_ | refine wY ?_))
    clear hF
    repeat refine evDone ?_
    try (show AW _ _ _ _ _)
    have hF := hN
    refine wC (hA := f37) ?_
    clear hF
    have hF := hN
    repeat (first | refine wD1 ?_ | refine wD2 ?_ | refine wE1 ?_ | refine wE2 ?_ | (refine wE3 ?_; intro _) | (refine wE4 ?_; intro _) | refine wN ?_ | ((with_reducible show evIs _ (_ :: _) _ _); first | refine wQ ?_ | refine wF ?_ | refine wG ?_ | refine wT ?_ | refine wM ?_ | refine wS ?_ | refine wP ?_ | refine wJ ?_ | refine wX ?_ | refine wY ?_))
    clear hF
    repeat refine evDone ?_
    try (show AW _ _ _ _ _)
    refine AW.ret (retI (r := .tup [.sl .ext [], .agg [.int .i64 (-1), .sl .fro []], .bool false]) (by rw [← hT, throwF_none]; rfl) ?_)
    simp [a13_res, hN, resOk, resP, resV, ARes.op, R2s, R2, R1s, R1, closeOk, closeV]
  obtain ⟨K, rfl⟩ : ∃ K', K = K' + 1 := ⟨K - 1, by omega⟩
  replace hT := throwF_is hT
  obtain ⟨hAok, hfok⟩ := oks_snoc.1 hfs
  have hkA : A.length < 12 := by simp at hlen; omega
  have hp : (0 : Int) < (A.length : Int) + 1 := by omega
  have hA1 := ao_len A
  have hA2 := ao_shut A
  have he := elem_snoc Frame.ao A
  have hset := set_snoc Frame.ao A
  have htk := take_snoc Frame.ao A
  simp only [List.map_append, List.map_cons, List.map_nil, List.length_append, List.length_cons, List.length_nil, Nat.zero_add]
  have hF := And.intro (hp) (hN)
  repeat (first | refine wD1 ?_ | refine wD2 ?_ | refine wE1 ?_ | refine wE2 ?_ | (refine wE3 ?_; intro _) | (refine wE4 ?_; intro _) | refine wN ?_ | ((with_reducible show evIs _ (_ :: _) _ _); first | refine wQ ?_ | refine wF ?_ | refine wG ?_ | refine wT ?_ | refine wM ?_ | refine wS ?_ | refine wP ?_ | refine wJ ?_ | refine wX ?_ | refine wY ?_))
  clear hF
  repeat refine evDone ?_
  try (show AW _ _ _ _ _)
  repeat refine AW.seq ?_
  refine AW.condT (by simp [hp]) (by simp [hp]) ?_
  refine AW.skip ?_
  show AW _ _ _ _ _
  refine AW.block ?_
  refine AW.fit (st' := mkS [(0, .hdr 5 0 (A.length + 1)), (3, .ptr 0 0 0), (4, .sl .ext []), (5, .ptr 2 0 0), (6, .bool false)] [(5, ⟨5, false, A.map Frame.ao ++ [Frame.ao ⟨fn, pc, slots, stack, marks⟩]⟩), (0, ⟨5, true, [.agg [.int .i64 a, .int .i64 b, .str c, .sl .fro (avs d), .sl .fro (e.map .str)]]⟩), (2, ⟨2, true, [.agg [.int .i64 0, .sl .ext []]]⟩)] n) ?_ ?_
  · refine Fit.mk _ _ _ (by simp [hN, conv2, newEmp, convs_refl, convs, conv]) (by simp [hN, heapFit, newEmp, conv2s, conv2, convs_refl, convs, conv]) (by intro q hq; first | (simp at hq; done) | (simp at hq; omega) | (simp at hq; simp; omega))
  rw [mkS_eq]
  refine AW.fit (openLast 5 n (n + 1) (A.map Frame.ao) ⟨fn, pc, slots, stack, marks⟩ (by simp) hA1 (by simp) (by simp) (by omega)) ?_
  refine AW.fit (st' := mkS [(0, .hdr 5 0 (A.length + 1)), (3, .ptr 0 0 0), (4, .sl .ext []), (5, .ptr 2 0 0), (6, .bool false)] [(5, ⟨5, true, A.map Frame.ao ++ [.agg [.int .i64 fn, .int .i64 pc, .hdr n 0 slots.length, .sl .fro (avs stack), .hdr (n + 1) 0 marks.length]]⟩), (n, ⟨5, false, avs slots⟩), (n + 1, ⟨10, false, marks.map Mark.av⟩), (0, ⟨5, true, [.agg [.int .i64 a, .int .i64 b, .str c, .sl .fro (avs d), .sl .fro (e.map .str)]]⟩), (2, ⟨2, true, [.agg [.int .i64 0, .sl .ext []]]⟩)] (n + 10)) ?_ ?_
  · refine Fit.mk _ _ _ (by simp [hupd, uupd, rowH, hN, conv2, newEmp, convs_refl, convs, conv]) (by simp [hupd, uupd, rowH, hN, heapFit, newEmp, conv2s, conv2, convs_refl, convs, conv]) (by intro q hq; first | (simp at hq; done) | (simp at hq; omega) | (simp at hq; simp; omega))
  rcases snoc_cases marks with rfl | ⟨ms, ⟨kind, target, slot, height, us, tk, tn, tt, ti, ts⟩, rfl⟩
  · rw [stepF_nil _ _ _ rfl] at hT
    replace hT : throwF K A _ = TT := hT
    have h34 := f34_none (n + 100) 5 n (n + 1) A.length slots.length (A.map Frame.ao ++ [.agg [.int .i64 fn, .int .i64 pc, .hdr n 0 slots.length, .sl .fro (avs stack), .hdr (n + 1) 0 0]]) fn pc stack (by simp) (he _) (by omega) (by omega)
    have hw : IntKind.i64.wrap (A.length : Int) = (A.length : Int) := i64_in _ ⟨by omega, by omega⟩
    have h2 : (0 : Int) ≤ A.length := by omega
    have h3 : (A.length : Int) ≤ (A.length : Int) + 1 := by omega
    have h4 : A.length ≤ A.length + 1 := by omega
    simp only [List.map_nil, List.length_nil]
    repeat refine AW.seq ?_
    refine AW.reg ?_
    have hF := hN
    repeat (first | refine wD1 ?_ | refine wD2 ?_ | refine wE1 ?_ | refine wE2 ?_ | (refine wE3 ?_; intro _) | (refine wE4 ?_; intro _) | refine wN ?_ | ((with_reducible show evIs _ (_ :: _) _ _); first | refine wQ ?_ | refine wF ?_ | refine wG ?_ | refine wT ?_ | refine wM ?_ | refine wS ?_ | refine wP ?_ | refine wJ ?_ | refine wX ?_ | refine wY ?_))
    clear hF
    repeat refine evDone ?_
    try (show AW _ _ _ _ _)
    have hF := hN
    refine wL (hA := h34) ?_
    clear hF
    rintro _ _ _ ⟨rfl, rfl, rfl⟩
    have hF := hN
    repeat (first | refine wD1 ?_ | refine wD2 ?_ | refine wE1 ?_ | refine wE2 ?_ | (refine wE3 ?_; intro _) | (refine wE4 ?_; intro _) | refine wN ?_ | ((with_reducible show evIs _ (_ :: _) _ _); first | refine wQ ?_ | refine wF ?_ | refine wG ?_ | refine wT ?_ | refine wM ?_ | refine wS ?_ | refine wP ?_ | refine wJ ?_ | refine wX ?_ | refine wY ?_))
    clear hF
    repeat refine evDone ?_
    try (show AW _ _ _ _ _)
    repeat refine AW.seq ?_
    refine AW.reg ?_
    have hF := hN
    repeat (first | refine wD1 ?_ | refine wD2 ?_ | refine wE1 ?_ | refine wE2 ?_ | (refine wE3 ?_; intro _) | (refine wE4 ?_; intro _) | refine wN ?_ | ((with_reducible show evIs _ (_ :: _) _ _); first | refine wQ ?_ | refine wF ?_ | refine wG ?_ | refine wT ?_ | refine wM ?_ | refine wS ?_ | refine wP ?_ | refine wJ ?_ | refine wX ?_ | refine wY ?_))
    clear hF
    repeat refine evDone ?_
    try (show AW _ _ _ _ _)
    repeat refine AW.seq ?_
    refine AW.condT (by simp []) (by simp []) ?_
    repeat refine AW.seq ?_
    refine AW.reg ?_
    have hF := And.intro (hw) (And.intro (h2) (And.intro (h3) (And.intro (h4) (hN))))
    repeat (first | refine wD1 ?_ | refine wD2 ?_ | refine wE1 ?_ | refine wE2 ?_ | (refine wE3 ?_; intro _) | (refine wE4 ?_; intro _) | refine wN ?_ | ((with_reducible show evIs _ (_ :: _) _ _); first | refine wQ ?_ | refine wF ?_ | refine wG ?_ | refine wT ?_ | refine wM ?_ | refine wS ?_ | refine wP ?_ | refine wJ ?_ | refine wX ?_ | refine wY ?_))
    clear hF
    repeat refine evDone ?_
    try (show AW _ _ _ _ _)
    refine AW.exit ?_
    refine ⟨(K, A, Val.mk a b c d e, n + 400), ⟨by rw [szF_snoc] at hK; dsimp only at hK ⊢; omega, hT, hAok, hv, by dsimp only; omega, by dsimp only; omega⟩, by dsimp only; omega, ?_⟩
    dsimp only
    refine Fit.then (b := mkS [(0, .hdr 5 0 A.length), (3, .ptr 0 0 0), (4, .sl .ext []), (5, .ptr 2 0 0), (6, .bool false)] [(5, ⟨5, true, A.map Frame.ao ++ [.agg [.int .i64 fn, .int .i64 pc, .hdr n 0 slots.length, .sl .fro (avs stack), .hdr (n + 1) 0 0]]⟩), (n, ⟨5, false, avs slots⟩), (n + 1, ⟨10, false, []⟩), (0, ⟨5, true, [.agg [.int .i64 a, .int .i64 b, .str c, .sl .fro (avs d), .sl .fro (e.map .str)]]⟩), (2, ⟨2, true, [.agg [.int .i64 0, .sl .ext []]]⟩)] (n + 400)) ?_ ?_
    · refine Fit.mk _ _ _ (by simp [hN, conv2, newEmp, convs_refl, convs, conv]) (by simp [hN, heapFit, newEmp, conv2s, conv2, convs_refl, convs, conv]) (by intro q hq; first | (simp at hq; done) | (simp at hq; omega) | (simp at hq; simp; omega))
    rw [mkS_eq]
    refine Fit.then (shutLast 5 n (n + 1) (A.map Frame.ao) fn pc slots stack ([]) ([]) 0 (by simp [rowH]) (by simp [hN]) (by simp [hN]) (by simp) (by simp [Mark.av]) hA1 hA2 (by omega) (by omega) (by omega)) ?_
    refine Fit.then (Fit.cutR (r := 5) A.length (by simp [hupd]; rfl)) ?_
    refine Fit.mk _ _ _ (by simp [hupd, hN, Val.av, conv2, newEmp, convs_refl, convs, conv]) (by simp [hupd, hN, Val.av, heapFit, newEmp, conv2s, conv2, convs_refl, convs, conv]) (by intro q hq; first | (simp at hq; done) | (simp at hq; omega) | (simp at hq; simp; omega))
  rw [stepF_snoc _ _ _ ms ⟨kind, target, slot, height, us, tk, tn, tt, ti, ts⟩ rfl] at hT
  have hml : ms.length < 12 := by have := hfok.2; simp at this; omega
  have hmo : Mark.ok ⟨kind, target, slot, height, us, tk, tn, tt, ti, ts⟩ := hfok.1.2.2.2.2.2 _ (by simp)
  have heM := elem_snoc Mark.av ms
  have hsetM := set_snoc Mark.av ms
  have h34 := f34_some (n + 100) 5 n (n + 1) A.length ms.length slots.length (A.map Frame.ao ++ [.agg [.int .i64 fn, .int .i64 pc, .hdr n 0 slots.length, .sl .fro (avs stack), .hdr (n + 1) 0 (ms.length + 1)]]) (ms.map Mark.av ++ [Mark.av ⟨kind, target, slot, height, us, tk, tn, tt, ti, ts⟩]) false fn pc stack (by simp) (he _) (by simp) (by omega) (by omega) (by omega) (by omega) (by omega)
  have h5 : (5 = n + 1) = False ∧ (n + 1 = 5) = False := ⟨eq_false (by omega), eq_false (by omega)⟩
  simp only [Mark.av] at h34
  simp only [List.map_append, List.map_cons, List.map_nil, List.length_append, List.length_cons, List.length_nil, Nat.zero_add, Mark.av]
  repeat refine AW.seq ?_
  refine AW.reg ?_
  have hF := hN
  repeat (first | refine wD1 ?_ | refine wD2 ?_ | refine wE1 ?_ | refine wE2 ?_ | (refine wE3 ?_; intro _) | (refine wE4 ?_; intro _) | refine wN ?_ | ((with_reducible show evIs _ (_ :: _) _ _); first | refine wQ ?_ | refine wF ?_ | refine wG ?_ | refine wT ?_ | refine wM ?_ | refine wS ?_ | refine wP ?_ | refine wJ ?_ | refine wX ?_ | refine wY ?_))
  clear hF
  repeat refine evDone ?_
  try (show AW _ _ _ _ _)
  have hF := hN
  refine wL (hA := h34) ?_
  clear hF
  rintro _ _ _ ⟨rfl, rfl, rfl⟩
  have hF := hN
  repeat (first | refine wD1 ?_ | refine wD2 ?_ | refine wE1 ?_ | refine wE2 ?_ | (refine wE3 ?_; intro _) | (refine wE4 ?_; intro _) | refine wN ?_ | ((with_reducible show evIs _ (_ :: _) _ _); first | refine wQ ?_ | refine wF ?_ | refine wG ?_ | refine wT ?_ | refine wM ?_ | refine wS ?_ | refine wP ?_ | refine wJ ?_ | refine wX ?_ | refine wY ?_))
  clear hF
  repeat refine evDone ?_
  try (show AW _ _ _ _ _)
  repeat refine AW.seq ?_
  refine AW.reg ?_
  have hF := hN
  repeat (first | refine wD1 ?_ | refine wD2 ?_ | refine wE1 ?_ | refine wE2 ?_ | (refine wE3 ?_; intro _) | (refine wE4 ?_; intro _) | refine wN ?_ | ((with_reducible show evIs _ (_ :: _) _ _); first | refine wQ ?_ | refine wF ?_ | refine wG ?_ | refine wT ?_ | refine wM ?_ | refine wS ?_ | refine wP ?_ | refine wJ ?_ | refine wX ?_ | refine wY ?_))
  clear hF
  repeat refine evDone ?_
  try (show AW _ _ _ _ _)
  repeat refine AW.seq ?_
  refine AW.condF (by simp []) (by simp []) ?_
  refine AW.skip ?_
  show AW _ _ _ _ _
  repeat refine AW.seq ?_
  refine AW.reg ?_
  have hF := And.intro (heM) (hN)
  repeat (first | refine wD1 ?_ | refine wD2 ?_ | refine wE1 ?_ | refine wE2 ?_ | (refine wE3 ?_; intro _) | (refine wE4 ?_; intro _) | refine wN ?_ | ((with_reducible show evIs _ (_ :: _) _ _); first | refine wQ ?_ | refine wF ?_ | refine wG ?_ | refine wT ?_ | refine wM ?_ | refine wS ?_ | refine wP ?_ | refine wJ ?_ | refine wX ?_ | refine wY ?_))
  clear hF
  repeat refine evDone ?_
  try (show AW _ _ _ _ _)
  repeat refine AW.seq ?_
  refine AW.block ?_
  repeat refine AW.seq ?_
  refine AW.reg ?_
  have hkeep := stepM_keeps' A fn pc slots stack ms ⟨kind, target, slot, height, us, tk, tn, tt, ti, ts⟩ (Val.mk a b c d e) hAok hfok hv
  have hul : us.length < 10000000000000 := by have := hmo.1; dsimp only at this; omega
  by_cases k1 : kind = 1
  · subst k1
    rw [show stepM A _ ms _ _ = .done (A ++ [⟨fn, target, setS slots slot (Val.mk a b c d e), cutS stack height, ms⟩]) noneU true from rfl] at hT hkeep
    have hT2 : (_, _, _) = TT := hT
    subst hT2
    have hF := hN
    repeat (first | refine wD1 ?_ | refine wD2 ?_ | refine wE1 ?_ | refine wE2 ?_ | (refine wE3 ?_; intro _) | (refine wE4 ?_; intro _) | refine wN ?_ | ((with_reducible show evIs _ (_ :: _) _ _); first | refine wQ ?_ | refine wF ?_ | refine wG ?_ | refine wT ?_ | refine wM ?_ | refine wS ?_ | refine wP ?_ | refine wJ ?_ | refine wX ?_ | refine wY ?_))
    clear hF
    repeat refine evDone ?_
    try (show AW _ _ _ _ _)
    repeat refine AW.seq ?_
    refine AW.condT (by simp []) (by simp []) ?_
    refine AW.fit (st' := mkS [(0, .hdr 5 0 (A.length + 1)), (3, .ptr 0 0 0), (4, .sl .ext []), (5, .ptr 2 0 0), (6, .bool false), (7, .ptr 5 A.length 0), (8, .ptr (n + 1) ms.length 0), (34, .int .i64 1)] [(5, ⟨5, true, A.map Frame.ao ++ [.agg [.int .i64 fn, .int .i64 pc, .hdr n 0 slots.length, .sl .fro (avs stack), .hdr (n + 1) 0 (ms.length + 1)]]⟩), (n, ⟨5, false, avs slots⟩), (n + 1, ⟨10, false, ms.map Mark.av ++ [.agg [.int .i64 1, .int .i64 target, .int .i64 slot, .int .i64 height, .sl .fro (us.map Undo.av), .int .i64 tk, .int .i64 tn, .str tt, .sl .fro (avs ti), .sl .fro (ts.map .str)]]⟩), (0, ⟨5, true, [.agg [.int .i64 a, .int .i64 b, .str c, .sl .fro (avs d), .sl .fro (e.map .str)]]⟩), (2, ⟨2, true, [.agg [.int .i64 0, .sl .ext []]]⟩)] (n + 250)) ?_ ?_
    · refine Fit.mk _ _ _ (by simp [hN, conv2, newEmp, convs_refl, convs, conv]) (by simp [hN, heapFit, newEmp, conv2s, conv2, convs_refl, convs, conv]) (by intro q hq; first | (simp at hq; done) | (simp at hq; omega) | (simp at hq; simp; omega))
    refine t_try A ms fn pc slots stack 0 target slot height us tk tn tt ti ts a b c d e n hn hkA hml _ ?_
    exact fun s h => h
  by_cases k2 : kind = 2
  · subst k2
    have hF := hN
    repeat (first | refine wD1 ?_ | refine wD2 ?_ | refine wE1 ?_ | refine wE2 ?_ | (refine wE3 ?_; intro _) | (refine wE4 ?_; intro _) | refine wN ?_ | ((with_reducible show evIs _ (_ :: _) _ _); first | refine wQ ?_ | refine wF ?_ | refine wG ?_ | refine wT ?_ | refine wM ?_ | refine wS ?_ | refine wP ?_ | refine wJ ?_ | refine wX ?_ | refine wY ?_))
    clear hF
    repeat refine evDone ?_
    try (show AW _ _ _ _ _)
    repeat refine AW.seq ?_
    refine AW.condF (by simp []) (by simp []) ?_
    repeat refine AW.seq ?_
    refine AW.reg ?_
    have hF := hN
    repeat (first | refine wD1 ?_ | refine wD2 ?_ | refine wE1 ?_ | refine wE2 ?_ | (refine wE3 ?_; intro _) | (refine wE4 ?_; intro _) | refine wN ?_ | ((with_reducible show evIs _ (_ :: _) _ _); first | refine wQ ?_ | refine wF ?_ | refine wG ?_ | refine wT ?_ | refine wM ?_ | refine wS ?_ | refine wP ?_ | refine wJ ?_ | refine wX ?_ | refine wY ?_))
    clear hF
    repeat refine evDone ?_
    try (show AW _ _ _ _ _)
    repeat refine AW.seq ?_
    refine AW.condT (by simp []) (by simp []) ?_
    refine AW.skip ?_
    show AW _ _ _ _ _
    repeat refine AW.seq ?_
    refine AW.condT (by simp []) (by simp []) ?_
    refine AW.fit (st' := mkS [(0, .hdr 5 0 (A.length + 1)), (3, .ptr 0 0 0), (4, .sl .ext []), (5, .ptr 2 0 0), (6, .bool false), (7, .ptr 5 A.length 0), (8, .ptr (n + 1) ms.length 0), (34, .int .i64 2)] [(5, ⟨5, true, A.map Frame.ao ++ [.agg [.int .i64 fn, .int .i64 pc, .hdr n 0 slots.length, .sl .fro (avs stack), .hdr (n + 1) 0 (ms.length + 1)]]⟩), (n, ⟨5, false, avs slots⟩), (n + 1, ⟨10, false, ms.map Mark.av ++ [.agg [.int .i64 2, .int .i64 target, .int .i64 slot, .int .i64 height, .sl .fro (us.map Undo.av), .int .i64 tk, .int .i64 tn, .str tt, .sl .fro (avs ti), .sl .fro (ts.map .str)]]⟩), (0, ⟨5, true, [.agg [.int .i64 a, .int .i64 b, .str c, .sl .fro (avs d), .sl .fro (e.map .str)]]⟩), (2, ⟨2, true, [.agg [.int .i64 0, .sl .ext []]]⟩)] (n + 250)) ?_ ?_
    · refine Fit.mk _ _ _ (by simp [hN, conv2, newEmp, convs_refl, convs, conv]) (by simp [hN, heapFit, newEmp, conv2s, conv2, convs_refl, convs, conv]) (by intro q hq; first | (simp at hq; done) | (simp at hq; omega) | (simp at hq; simp; omega))
    refine t_saga2 A ms fn pc slots stack 0 target slot height us tk tn tt ti ts a b c d e n hn hkA hml _ ?_
    rcases snoc_cases us with rfl | ⟨us, w, rfl⟩
    · rw [show stepM A _ ms _ _ = .go (A ++ [⟨fn, pc, slots, cutS stack height, ms⟩]) (Val.mk a b c d e) by simp [stepM, Mark.now, Mark.thr, Mark.th]] at hT hkeep
      obtain ⟨h1, h2, h3, h4⟩ := hkeep
      replace hT : throwF K _ _ = TT := hT
      refine t_end A ms fn pc slots (cutS stack height) 0 target slot height a b c d e a b c d e n hn hkA hml _ ?_
      have hK2 : szF (A ++ [⟨fn, pc, slots, cutS stack height, ms⟩]) < K := by omega
      refine fun s h => ⟨(K, A ++ [⟨fn, pc, slots, cutS stack height, ms⟩], Val.mk a b c d e, n + 900), ⟨hK2, hT, h1, h2, by simp; omega, by dsimp only; omega⟩, by dsimp only; omega, ?_⟩
      dsimp only
      simpa only [List.map_append, List.map_cons, List.map_nil, List.length_append, List.length_cons, List.length_nil, Nat.zero_add, Val.av] using h
    · rw [show stepM A _ ms _ _ = .done (A ++ [⟨fn, pc, slots, cutS stack height, ms ++ [⟨3, target, slot, height, us, a, b, c, d, e⟩]⟩]) w true by simp [stepM, Mark.now, Mark.thr, Mark.th]] at hT hkeep
      have hul2 : us.length < 10000000000000 := by simp at hul; omega
      have hT2 : (_, _, _) = TT := hT
      subst hT2
      simp only [List.map_append, List.map_cons, List.map_nil]
      refine t_undo A ms fn pc slots (cutS stack height) 0 target slot height us a b c d e a b c d e n hn hkA hml _ w hul2 ?_
      exact fun s h => h
  by_cases k3 : kind = 3
  · subst k3
    have hF := hN
    repeat (first | refine wD1 ?_ | refine wD2 ?_ | refine wE1 ?_ | refine wE2 ?_ | (refine wE3 ?_; intro _) | (refine wE4 ?_; intro _) | refine wN ?_ | ((with_reducible show evIs _ (_ :: _) _ _); first | refine wQ ?_ | refine wF ?_ | refine wG ?_ | refine wT ?_ | refine wM ?_ | refine wS ?_ | refine wP ?_ | refine wJ ?_ | refine wX ?_ | refine wY ?_))
    clear hF
    repeat refine evDone ?_
    try (show AW _ _ _ _ _)
    repeat refine AW.seq ?_
    refine AW.condF (by simp []) (by simp []) ?_
    repeat refine AW.seq ?_
    refine AW.reg ?_
    have hF := hN
    repeat (first | refine wD1 ?_ | refine wD2 ?_ | refine wE1 ?_ | refine wE2 ?_ | (refine wE3 ?_; intro _) | (refine wE4 ?_; intro _) | refine wN ?_ | ((with_reducible show evIs _ (_ :: _) _ _); first | refine wQ ?_ | refine wF ?_ | refine wG ?_ | refine wT ?_ | refine wM ?_ | refine wS ?_ | refine wP ?_ | refine wJ ?_ | refine wX ?_ | refine wY ?_))
    clear hF
    repeat refine evDone ?_
    try (show AW _ _ _ _ _)
    repeat refine AW.seq ?_
    refine AW.condF (by simp []) (by simp []) ?_
    repeat refine AW.seq ?_
    refine AW.reg ?_
    have hF := hN
    repeat (first | refine wD1 ?_ | refine wD2 ?_ | refine wE1 ?_ | refine wE2 ?_ | (refine wE3 ?_; intro _) | (refine wE4 ?_; intro _) | refine wN ?_ | ((with_reducible show evIs _ (_ :: _) _ _); first | refine wQ ?_ | refine wF ?_ | refine wG ?_ | refine wT ?_ | refine wM ?_ | refine wS ?_ | refine wP ?_ | refine wJ ?_ | refine wX ?_ | refine wY ?_))
    clear hF
    repeat refine evDone ?_
    try (show AW _ _ _ _ _)
    repeat refine AW.seq ?_
    refine AW.condT (by simp []) (by simp []) ?_
    refine AW.fit (st' := mkS [(0, .hdr 5 0 (A.length + 1)), (3, .ptr 0 0 0), (4, .sl .ext []), (5, .ptr 2 0 0), (6, .bool false), (7, .ptr 5 A.length 0), (8, .ptr (n + 1) ms.length 0), (34, .int .i64 3)] [(5, ⟨5, true, A.map Frame.ao ++ [.agg [.int .i64 fn, .int .i64 pc, .hdr n 0 slots.length, .sl .fro (avs stack), .hdr (n + 1) 0 (ms.length + 1)]]⟩), (n, ⟨5, false, avs slots⟩), (n + 1, ⟨10, false, ms.map Mark.av ++ [.agg [.int .i64 3, .int .i64 target, .int .i64 slot, .int .i64 height, .sl .fro (us.map Undo.av), .int .i64 tk, .int .i64 tn, .str tt, .sl .fro (avs ti), .sl .fro (ts.map .str)]]⟩), (0, ⟨5, true, [.agg [.int .i64 a, .int .i64 b, .str c, .sl .fro (avs d), .sl .fro (e.map .str)]]⟩), (2, ⟨2, true, [.agg [.int .i64 0, .sl .ext []]]⟩)] (n + 250)) ?_ ?_
    · refine Fit.mk _ _ _ (by simp [hN, conv2, newEmp, convs_refl, convs, conv]) (by simp [hN, heapFit, newEmp, conv2s, conv2, convs_refl, convs, conv]) (by intro q hq; first | (simp at hq; done) | (simp at hq; omega) | (simp at hq; simp; omega))
    refine t_saga3 A ms fn pc slots stack 0 target slot height us tk tn tt ti ts a b c d e n hn hkA hml _ ?_
    rcases snoc_cases us with rfl | ⟨us, w, rfl⟩
    · rw [show stepM A _ ms _ _ = .go (A ++ [⟨fn, pc, slots, cutS stack height, ms⟩]) (Val.mk tk tn tt ti ts) by simp [stepM, Mark.now, Mark.thr, Mark.th]] at hT hkeep
      obtain ⟨h1, h2, h3, h4⟩ := hkeep
      replace hT : throwF K _ _ = TT := hT
      refine t_end A ms fn pc slots (cutS stack height) 0 target slot height tk tn tt ti ts a b c d e n hn hkA hml _ ?_
      have hK2 : szF (A ++ [⟨fn, pc, slots, cutS stack height, ms⟩]) < K := by omega
      refine fun s h => ⟨(K, A ++ [⟨fn, pc, slots, cutS stack height, ms⟩], Val.mk tk tn tt ti ts, n + 900), ⟨hK2, hT, h1, h2, by simp; omega, by dsimp only; omega⟩, by dsimp only; omega, ?_⟩
      dsimp only
      simpa only [List.map_append, List.map_cons, List.map_nil, List.length_append, List.length_cons, List.length_nil, Nat.zero_add, Val.av] using h
    · rw [show stepM A _ ms _ _ = .done (A ++ [⟨fn, pc, slots, cutS stack height, ms ++ [⟨3, target, slot, height, us, tk, tn, tt, ti, ts⟩]⟩]) w true by simp [stepM, Mark.now, Mark.thr, Mark.th]] at hT hkeep
      have hul2 : us.length < 10000000000000 := by simp at hul; omega
      have hT2 : (_, _, _) = TT := hT
      subst hT2
      simp only [List.map_append, List.map_cons, List.map_nil]
      refine t_undo A ms fn pc slots (cutS stack height) 0 target slot height us tk tn tt ti ts a b c d e n hn hkA hml _ w hul2 ?_
      exact fun s h => h
  rw [show stepM A _ ms _ _ = .go (A ++ [⟨fn, pc, slots, stack, ms⟩]) (Val.mk a b c d e) by simp [stepM, k1, k2, k3]] at hT hkeep
  obtain ⟨h1, h2, h3, h4⟩ := hkeep
  replace hT : throwF K _ _ = TT := hT
  have hK2 : szF (A ++ [⟨fn, pc, slots, stack, ms⟩]) < K := by omega
  repeat (first
    | refine evD1 rfl rfl rfl ?_
    | refine evD2 rfl rfl rfl ?_
    | (refine evD1g rfl rfl rfl ?_ ?_; (focus (simp [k1, hN]; done)))
    | (refine evD2g rfl rfl rfl ?_ ?_; (focus (simp [k1, hN]; done)))
    | (refine evN ?_ ?_; (focus (first | exact trivial | (simp [k1, hN, wsOf, List.lookup, rechecks, recheck, ok1, val1]; done))))
    | (with_reducible show evIs _ (_ :: _) _ _
       first
        | (refine evQ rfl rfl rfl (by conv => lhs; (try simp [k1, hN])) ?_ ?_; (focus (simp [k1, hN]; done)))
        | (refine evF rfl rfl ?_ ?_ ?_; (focus (simp [k1, hN]; done)); (focus (simp [k1, hN]; done)))
        | (refine evG rfl rfl rfl (by conv => lhs; (try simp [k1, hN])) (by conv => lhs; (try simp [k1, hN])) ?_ ?_ ?_; (focus (simp [k1, hN]; done)); (focus (simp [k1, hN]; done)))
        | (refine evT1 rfl ?_ rfl ?_ ?_; (focus (simp [k1, hN]; done)); (focus (simp [k1, hN]; done)))
        | (refine evM rfl rfl rfl (by conv => lhs; (try simp)) (by conv => lhs; (try simp [k1, hN])) ?_ ?_; (focus (simp [k1, hN]; done)))
        | (refine evS rfl rfl rfl (by conv => lhs; (try simp [k1, hN])) (by conv => lhs; (try simp [k1, hN])) (by conv => lhs; (try simp [k1, hN, storeS, putAt, reCells, usedE])) ?_ ?_ ?_ ?_; (focus (simp [k1, hN]; done)); (focus (simp [k1, hN]; done)); (focus (simp [k1, hN, storeOk]; done)))
        | (refine evAp rfl rfl rfl (by conv => lhs; (try simp)) (by conv => lhs; (try simp [k1, hN])) (by conv => lhs; (try simp [k1, hN])) (by conv => lhs; (try simp [k1, hN, appS])) (by conv => lhs; (try simp [k1, hN])) ?_ ?_ ?_ ?_; (focus (simp [k1, hN]; done)); (focus (simp [k1, hN]; done)); (focus (simp [k1, hN, appOk]; done)))))
  repeat refine evDone ?_
  try (show AW _ _ _ _ _)
  repeat refine AW.seq ?_
  refine AW.condF (by simp [k1]) (by simp [k1]) ?_
  repeat refine AW.seq ?_
  refine AW.reg ?_
  repeat (first
    | refine evD1 rfl rfl rfl ?_
    | refine evD2 rfl rfl rfl ?_
    | (refine evD1g rfl rfl rfl ?_ ?_; (focus (simp [k2, hN]; done)))
    | (refine evD2g rfl rfl rfl ?_ ?_; (focus (simp [k2, hN]; done)))
    | (refine evN ?_ ?_; (focus (first | exact trivial | (simp [k2, hN, wsOf, List.lookup, rechecks, recheck, ok1, val1]; done))))
    | (with_reducible show evIs _ (_ :: _) _ _
       first
        | (refine evQ rfl rfl rfl (by conv => lhs; (try simp [k2, hN])) ?_ ?_; (focus (simp [k2, hN]; done)))
        | (refine evF rfl rfl ?_ ?_ ?_; (focus (simp [k2, hN]; done)); (focus (simp [k2, hN]; done)))
        | (refine evG rfl rfl rfl (by conv => lhs; (try simp [k2, hN])) (by conv => lhs; (try simp [k2, hN])) ?_ ?_ ?_; (focus (simp [k2, hN]; done)); (focus (simp [k2, hN]; done)))
        | (refine evT1 rfl ?_ rfl ?_ ?_; (focus (simp [k2, hN]; done)); (focus (simp [k2, hN]; done)))
        | (refine evM rfl rfl rfl (by conv => lhs; (try simp)) (by conv => lhs; (try simp [k2, hN])) ?_ ?_; (focus (simp [k2, hN]; done)))
        | (refine evS rfl rfl rfl (by conv => lhs; (try simp [k2, hN])) (by conv => lhs; (try simp [k2, hN])) (by conv => lhs; (try simp [k2, hN, storeS, putAt, reCells, usedE])) ?_ ?_ ?_ ?_; (focus (simp [k2, hN]; done)); (focus (simp [k2, hN]; done)); (focus (simp [k2, hN, storeOk]; done)))
        | (refine evAp rfl rfl rfl (by conv => lhs; (try simp)) (by conv => lhs; (try simp [k2, hN])) (by conv => lhs; (try simp [k2, hN])) (by conv => lhs; (try simp [k2, hN, appS])) (by conv => lhs; (try simp [k2, hN])) ?_ ?_ ?_ ?_; (focus (simp [k2, hN]; done)); (focus (simp [k2, hN]; done)); (focus (simp [k2, hN, appOk]; done)))))
  repeat refine evDone ?_
  try (show AW _ _ _ _ _)
  repeat refine AW.seq ?_
  refine AW.condF (by simp [k2]) (by simp [k2]) ?_
  repeat refine AW.seq ?_
  refine AW.reg ?_
  repeat (first
    | refine evD1 rfl rfl rfl ?_
    | refine evD2 rfl rfl rfl ?_
    | (refine evD1g rfl rfl rfl ?_ ?_; (focus (simp [k3, hN]; done)))
    | (refine evD2g rfl rfl rfl ?_ ?_; (focus (simp [k3, hN]; done)))
    | (refine evN ?_ ?_; (focus (first | exact trivial | (simp [k3, hN, wsOf, List.lookup, rechecks, recheck, ok1, val1]; done))))
    | (with_reducible show evIs _ (_ :: _) _ _
       first
        | (refine evQ rfl rfl rfl (by conv => lhs; (try simp [k3, hN])) ?_ ?_; (focus (simp [k3, hN]; done)))
        | (refine evF rfl rfl ?_ ?_ ?_; (focus (simp [k3, hN]; done)); (focus (simp [k3, hN]; done)))
        | (refine evG rfl rfl rfl (by conv => lhs; (try simp [k3, hN])) (by conv => lhs; (try simp [k3, hN])) ?_ ?_ ?_; (focus (simp [k3, hN]; done)); (focus (simp [k3, hN]; done)))
        | (refine evT1 rfl ?_ rfl ?_ ?_; (focus (simp [k3, hN]; done)); (focus (simp [k3, hN]; done)))
        | (refine evM rfl rfl rfl (by conv => lhs; (try simp)) (by conv => lhs; (try simp [k3, hN])) ?_ ?_; (focus (simp [k3, hN]; done)))
        | (refine evS rfl rfl rfl (by conv => lhs; (try simp [k3, hN])) (by conv => lhs; (try simp [k3, hN])) (by conv => lhs; (try simp [k3, hN, storeS, putAt, reCells, usedE])) ?_ ?_ ?_ ?_; (focus (simp [k3, hN]; done)); (focus (simp [k3, hN]; done)); (focus (simp [k3, hN, storeOk]; done)))
        | (refine evAp rfl rfl rfl (by conv => lhs; (try simp)) (by conv => lhs; (try simp [k3, hN])) (by conv => lhs; (try simp [k3, hN])) (by conv => lhs; (try simp [k3, hN, appS])) (by conv => lhs; (try simp [k3, hN])) ?_ ?_ ?_ ?_; (focus (simp [k3, hN]; done)); (focus (simp [k3, hN]; done)); (focus (simp [k3, hN, appOk]; done)))))
  repeat refine evDone ?_
  try (show AW _ _ _ _ _)
  repeat refine AW.seq ?_
  refine AW.condF (by simp [k3]) (by simp [k3]) ?_
  refine AW.fit (st' := mkS [(0, .hdr 5 0 (A.length + 1)), (3, .ptr 0 0 0), (4, .sl .ext []), (5, .ptr 2 0 0), (6, .bool false), (7, .ptr 5 A.length 0), (8, .ptr (n + 1) ms.length 0), (34, .int .i64 kind)] [(5, ⟨5, true, A.map Frame.ao ++ [.agg [.int .i64 fn, .int .i64 pc, .hdr n 0 slots.length, .sl .fro (avs stack), .hdr (n + 1) 0 (ms.length + 1)]]⟩), (n, ⟨5, false, avs slots⟩), (n + 1, ⟨10, false, ms.map Mark.av ++ [.agg [.int .i64 kind, .int .i64 target, .int .i64 slot, .int .i64 height, .sl .fro (us.map Undo.av), .int .i64 tk, .int .i64 tn, .str tt, .sl .fro (avs ti), .sl .fro (ts.map .str)]]⟩), (0, ⟨5, true, [.agg [.int .i64 a, .int .i64 b, .str c, .sl .fro (avs d), .sl .fro (e.map .str)]]⟩), (2, ⟨2, true, [.agg [.int .i64 0, .sl .ext []]]⟩)] (n + 250)) ?_ ?_
  · refine Fit.mk _ _ _ (by simp [hN, conv2, newEmp, convs_refl, convs, conv]) (by simp [hN, heapFit, newEmp, conv2s, conv2, convs_refl, convs, conv]) (by intro q hq; first | (simp at hq; done) | (simp at hq; omega) | (simp at hq; simp; omega))
  refine t_other A ms fn pc slots stack kind target slot height us tk tn tt ti ts a b c d e n hn hkA hml _ ?_
  refine fun s h => ⟨(K, A ++ [⟨fn, pc, slots, stack, ms⟩], Val.mk a b c d e, n + 900), ⟨hK2, hT, h1, h2, by simp; omega, by dsimp only; omega⟩, by dsimp only; omega, ?_⟩
  dsimp only
  simpa only [List.map_append, List.map_cons, List.map_nil, List.length_append, List.length_cons, List.length_nil, Nat.zero_add, Val.av] using h
end Go.Proofs.Ytafkaofaioleiaa

set_option linter.unusedSimpArgs false
set_option linter.unusedVariables false
set_option maxHeartbeats 8000000
namespace Go.Proofs.Ytafkaofaioleiaa
open Go Go.Amb Go.IntWalk

/-- Is the innermost mark of the last frame a saga that is being compensated? -/
def undoing (fs : List Frame) : Bool :=
  match fs.getLast? with
  | none => false
  | some f => match f.marks.getLast? with
    | none => false
    | some m => m.kind == 3
theorem undoing_none (A : List Frame) (f : Frame) (h : f.marks = []) : undoing (A ++ [f]) = false := by simp [undoing, h]
theorem undoing_some (A : List Frame) (f : Frame) (ms : List Mark) (m : Mark) (h : f.marks = ms ++ [m]) : undoing (A ++ [f]) = (m.kind == 3) := by simp [undoing, h]
theorem f34a (N : Nat) : BCall Try.prog 34 [] N [.sl .fro []] (fun H1 n' v => H1 = [] ∧ n' = N ∧ v = .tup [.nilp, .nilp]) := by
  refine bcall_coded a34_ok (by simp) ?_
  repeat refine AW.seq ?_
  refine AW.reg ?_
  have hF := True.intro
  repeat (first | refine wD1 ?_ | refine wD2 ?_ | refine wE1 ?_ | refine wE2 ?_ | (refine wE3 ?_; intro _) | (refine wE4 ?_; intro _) | refine wN ?_ | ((with_reducible show evIs _ (_ :: _) _ _); first | refine wQ ?_ | refine wF ?_ | refine wG ?_ | refine wT ?_ | refine wM ?_ | refine wS ?_ | refine wP ?_ | refine wJ ?_ | refine wX ?_ | refine wY ?_))
  clear hF
  repeat refine evDone ?_
  try (show AW _ _ _ _ _)
  repeat refine AW.seq ?_
  refine AW.reg ?_
  have hF := True.intro
  repeat (first | refine wD1 ?_ | refine wD2 ?_ | refine wE1 ?_ | refine wE2 ?_ | (refine wE3 ?_; intro _) | (refine wE4 ?_; intro _) | refine wN ?_ | ((with_reducible show evIs _ (_ :: _) _ _); first | refine wQ ?_ | refine wF ?_ | refine wG ?_ | refine wT ?_ | refine wM ?_ | refine wS ?_ | refine wP ?_ | refine wJ ?_ | refine wX ?_ | refine wY ?_))
  clear hF
  repeat refine evDone ?_
  try (show AW _ _ _ _ _)
  repeat refine AW.seq ?_
  refine AW.condT (by simp []) (by simp []) ?_
  repeat refine AW.seq ?_
  refine AW.reg ?_
  have hF := True.intro
  repeat (first | refine wD1 ?_ | refine wD2 ?_ | refine wE1 ?_ | refine wE2 ?_ | (refine wE3 ?_; intro _) | (refine wE4 ?_; intro _) | refine wN ?_ | ((with_reducible show evIs _ (_ :: _) _ _); first | refine wQ ?_ | refine wF ?_ | refine wG ?_ | refine wT ?_ | refine wM ?_ | refine wS ?_ | refine wP ?_ | refine wJ ?_ | refine wX ?_ | refine wY ?_))
  clear hF
  repeat refine evDone ?_
  try (show AW _ _ _ _ _)
  refine AW.ret ⟨by simp [resP, a34_res, ARes.op], [], N, [.nilp, .nilp], ⟨rfl, rfl, rfl⟩, by omega, by simp, rfl, by simp, ?_⟩
  simp only [resV, a34_res, List.map_cons, List.map_nil, ARes.op]
  refine Fit.mk _ _ _ (by simp [conv2, newEmp, convs_refl, convs, conv]) (by simp [heapFit, newEmp, conv2s, conv2, convs_refl, convs, conv]) (by intro q hq; first | (simp at hq; done) | (simp at hq; omega) | (simp at hq; simp; omega))
theorem f34b (N : Nat) (A : List Frame) (fn pc : Int) (slots stack : List Val) (hl : A.length < 1000000) :
    BCall Try.prog 34 [] N [.sl .fro ((A ++ [Frame.mk fn pc slots stack []]).map Frame.av)] (fun H1 n' v => H1 = [] ∧ n' = N ∧ v = .tup [.fptr (Frame.av ⟨fn, pc, slots, stack, []⟩) 0, .nilp]) := by
  have hl2 : ((A ++ [Frame.mk fn pc slots stack []]).map Frame.av).length = A.length + 1 := by simp
  have he : elemAt ((A ++ [Frame.mk fn pc slots stack []]).map Frame.av) A.length = .agg [.int .i64 fn, .int .i64 pc, .sl .fro (avs slots), .sl .fro (avs stack), .sl .fro []] := by
    simp [elemAt, Frame.av]
  simp only [Frame.av, List.map_nil]
  generalize (A ++ [Frame.mk fn pc slots stack []]).map Frame.av = es at *
  generalize A.length = k at *
  have h1 : ¬ (k : Int) + 1 = 0 := by omega
  have hw : IntKind.i64.wrap (k : Int) = (k : Int) := i64_in _ ⟨by omega, by omega⟩
  have h2 : (0 : Int) ≤ k := by omega
  have h3 : (k : Int) < (k : Int) + 1 := by omega
  refine bcall_coded a34_ok (by simp) ?_
  repeat refine AW.seq ?_
  refine AW.reg ?_
  have hF := True.intro
  repeat (first | refine wD1 ?_ | refine wD2 ?_ | refine wE1 ?_ | refine wE2 ?_ | (refine wE3 ?_; intro _) | (refine wE4 ?_; intro _) | refine wN ?_ | ((with_reducible show evIs _ (_ :: _) _ _); first | refine wQ ?_ | refine wF ?_ | refine wG ?_ | refine wT ?_ | refine wM ?_ | refine wS ?_ | refine wP ?_ | refine wJ ?_ | refine wX ?_ | refine wY ?_))
  clear hF
  repeat refine evDone ?_
  try (show AW _ _ _ _ _)
  repeat refine AW.seq ?_
  refine AW.reg ?_
  have hF := And.intro (h1) (hl2)
  repeat (first | refine wD1 ?_ | refine wD2 ?_ | refine wE1 ?_ | refine wE2 ?_ | (refine wE3 ?_; intro _) | (refine wE4 ?_; intro _) | refine wN ?_ | ((with_reducible show evIs _ (_ :: _) _ _); first | refine wQ ?_ | refine wF ?_ | refine wG ?_ | refine wT ?_ | refine wM ?_ | refine wS ?_ | refine wP ?_ | refine wJ ?_ | refine wX ?_ | refine wY ?_))
  clear hF
  repeat refine evDone ?_
  try (show AW _ _ _ _ _)
  repeat refine AW.seq ?_
  refine AW.condF (by simp [h1, hl2]) (by simp [h1, hl2]) ?_
  refine AW.skip ?_
  show AW _ _ _ _ _
  repeat refine AW.seq ?_
  refine AW.reg ?_
  have hF := And.intro (hw) (And.intro (h1) (And.intro (h2) (And.intro (h3) (And.intro (hl2) (he)))))
  repeat (first | refine wD1 ?_ | refine wD2 ?_ | refine wE1 ?_ | refine wE2 ?_ | (refine wE3 ?_; intro _) | (refine wE4 ?_; intro _) | refine wN ?_ | ((with_reducible show evIs _ (_ :: _) _ _); first | refine wQ ?_ | refine wF ?_ | refine wG ?_ | refine wT ?_ | refine wM ?_ | refine wS ?_ | refine wP ?_ | refine wJ ?_ | refine wX ?_ | refine wY ?_))
  clear hF
  repeat refine evDone ?_
  try (show AW _ _ _ _ _)
  repeat refine AW.seq ?_
  refine AW.reg ?_
  have hF := And.intro (hw) (And.intro (h2) (And.intro (h3) (And.intro (hl2) (he))))
  repeat (first | refine wD1 ?_ | refine wD2 ?_ | refine wE1 ?_ | refine wE2 ?_ | (refine wE3 ?_; intro _) | (refine wE4 ?_; intro _) | refine wN ?_ | ((with_reducible show evIs _ (_ :: _) _ _); first | refine wQ ?_ | refine wF ?_ | refine wG ?_ | refine wT ?_ | refine wM ?_ | refine wS ?_ | refine wP ?_ | refine wJ ?_ | refine wX ?_ | refine wY ?_))
  clear hF
  repeat refine evDone ?_
  try (show AW _ _ _ _ _)
  repeat refine AW.seq ?_
  refine AW.condT (by simp []) (by simp []) ?_
  repeat refine AW.seq ?_
  refine AW.reg ?_
  have hF := True.intro
  repeat (first | refine wD1 ?_ | refine wD2 ?_ | refine wE1 ?_ | refine wE2 ?_ | (refine wE3 ?_; intro _) | (refine wE4 ?_; intro _) | refine wN ?_ | ((with_reducible show evIs _ (_ :: _) _ _); first | refine wQ ?_ | refine wF ?_ | refine wG ?_ | refine wT ?_ | refine wM ?_ | refine wS ?_ | refine wP ?_ | refine wJ ?_ | refine wX ?_ | refine wY ?_))
  clear hF
  repeat refine evDone ?_
  try (show AW _ _ _ _ _)
  refine AW.ret ⟨by simp [resP, a34_res, ARes.op], [], N, [.fptr (.agg [.int .i64 fn, .int .i64 pc, .sl .fro (avs slots), .sl .fro (avs stack), .sl .fro []]) 0, .nilp], ⟨rfl, rfl, rfl⟩, by omega, by simp, rfl, by simp, ?_⟩
  simp only [resV, a34_res, List.map_cons, List.map_nil, ARes.op]
  refine Fit.mk _ _ _ (by simp [he, conv2, newEmp, convs_refl, convs, conv]) (by simp [he, heapFit, newEmp, conv2s, conv2, convs_refl, convs, conv]) (by intro q hq; first | (simp at hq; done) | (simp at hq; omega) | (simp at hq; simp; omega))
theorem f34c (N : Nat) (A : List Frame) (fn pc : Int) (slots stack : List Val) (ms : List Mark) (m : Mark) (hl : A.length < 1000000) (hml : ms.length < 1000000000000) :
    BCall Try.prog 34 [] N [.sl .fro ((A ++ [Frame.mk fn pc slots stack (ms ++ [m])]).map Frame.av)] (fun H1 n' v => H1 = [] ∧ n' = N ∧ v = .tup [.fptr (Frame.av ⟨fn, pc, slots, stack, ms ++ [m]⟩) 0, .fptr m.av 0]) := by
  have hl2 : ((A ++ [Frame.mk fn pc slots stack (ms ++ [m])]).map Frame.av).length = A.length + 1 := by simp
  have he : elemAt ((A ++ [Frame.mk fn pc slots stack (ms ++ [m])]).map Frame.av) A.length = .agg [.int .i64 fn, .int .i64 pc, .sl .fro (avs slots), .sl .fro (avs stack), .sl .fro ((ms ++ [m]).map Mark.av)] := by
    simp [elemAt, Frame.av]
  have hm : ((ms ++ [m]).map Mark.av).length = ms.length + 1 := by simp
  have hem : elemAt ((ms ++ [m]).map Mark.av) ms.length = m.av := by simp [elemAt]
  have hcm : (cellsOf m.av).length = 10 := mark_len m
  simp only [Frame.av]
  generalize (A ++ [Frame.mk fn pc slots stack (ms ++ [m])]).map Frame.av = es at *
  generalize (ms ++ [m]).map Mark.av = ys at *
  generalize A.length = k at *
  generalize ms.length = j at *
  generalize m.av = y at *
  have h1 : ¬ (k : Int) + 1 = 0 := by omega
  have h1' : ¬ (j : Int) + 1 = 0 := by omega
  have hw : IntKind.i64.wrap (k : Int) = (k : Int) := i64_in _ ⟨by omega, by omega⟩
  have hw' : IntKind.i64.wrap (j : Int) = (j : Int) := i64_in _ ⟨by omega, by omega⟩
  have h2 : (0 : Int) ≤ k := by omega
  have h2' : (0 : Int) ≤ j := by omega
  have h3 : (k : Int) < (k : Int) + 1 := by omega
  have h3' : (j : Int) < (j : Int) + 1 := by omega
  refine bcall_coded a34_ok (by simp) ?_
  repeat refine AW.seq ?_
  refine AW.reg ?_
  have hF := True.intro
  repeat (first | refine wD1 ?_ | refine wD2 ?_ | refine wE1 ?_ | refine wE2 ?_ | (refine wE3 ?_; intro _) | (refine wE4 ?_; intro _) | refine wN ?_ | ((with_reducible show evIs _ (_ :: _) _ _); first | refine wQ ?_ | refine wF ?_ | refine wG ?_ | refine wT ?_ | refine wM ?_ | refine wS ?_ | refine wP ?_ | refine wJ ?_ | refine wX ?_ | refine wY ?_))
  clear hF
  repeat refine evDone ?_
  try (show AW _ _ _ _ _)
  repeat refine AW.seq ?_
  refine AW.reg ?_
  have hF := And.intro (h1) (hl2)
  repeat (first | refine wD1 ?_ | refine wD2 ?_ | refine wE1 ?_ | refine wE2 ?_ | (refine wE3 ?_; intro _) | (refine wE4 ?_; intro _) | refine wN ?_ | ((with_reducible show evIs _ (_ :: _) _ _); first | refine wQ ?_ | refine wF ?_ | refine wG ?_ | refine wT ?_ | refine wM ?_ | refine wS ?_ | refine wP ?_ | refine wJ ?_ | refine wX ?_ | refine wY ?_))
  clear hF
  repeat refine evDone ?_
  try (show AW _ _ _ _ _)
  repeat refine AW.seq ?_
  refine AW.condF (by simp [h1, hl2]) (by simp [h1, hl2]) ?_
  refine AW.skip ?_
  show AW _ _ _ _ _
  repeat refine AW.seq ?_
  refine AW.reg ?_
  have hF := And.intro (hw) (And.intro (h1) (And.intro (h2) (And.intro (h3) (And.intro (hl2) (he)))))
  repeat (first | refine wD1 ?_ | refine wD2 ?_ | refine wE1 ?_ | refine wE2 ?_ | (refine wE3 ?_; intro _) | (refine wE4 ?_; intro _) | refine wN ?_ | ((with_reducible show evIs _ (_ :: _) _ _); first | refine wQ ?_ | refine wF ?_ | refine wG ?_ | refine wT ?_ | refine wM ?_ | refine wS ?_ | refine wP ?_ | refine wJ ?_ | refine wX ?_ | refine wY ?_))
  clear hF
  repeat refine evDone ?_
  try (show AW _ _ _ _ _)
  repeat refine AW.seq ?_
  refine AW.reg ?_
  have hF := And.intro (hw) (And.intro (h2) (And.intro (h3) (And.intro (hl2) (And.intro (he) (And.intro (h1') (hm))))))
  repeat (first | refine wD1 ?_ | refine wD2 ?_ | refine wE1 ?_ | refine wE2 ?_ | (refine wE3 ?_; intro _) | (refine wE4 ?_; intro _) | refine wN ?_ | ((with_reducible show evIs _ (_ :: _) _ _); first | refine wQ ?_ | refine wF ?_ | refine wG ?_ | refine wT ?_ | refine wM ?_ | refine wS ?_ | refine wP ?_ | refine wJ ?_ | refine wX ?_ | refine wY ?_))
  clear hF
  repeat refine evDone ?_
  try (show AW _ _ _ _ _)
  repeat refine AW.seq ?_
  refine AW.condF (by simp [h1', hm]) (by simp [h1', hm]) ?_
  refine AW.skip ?_
  show AW _ _ _ _ _
  repeat refine AW.seq ?_
  refine AW.draw ?_
  have hF := And.intro (hw) (And.intro (hw') (And.intro (h2) (And.intro (h3) (And.intro (h2') (And.intro (h3') (And.intro (hl2) (And.intro (hm) (And.intro (he) (And.intro (hem) (hcm))))))))))
  repeat (first | refine wD1 ?_ | refine wD2 ?_ | refine wE1 ?_ | refine wE2 ?_ | (refine wE3 ?_; intro _) | (refine wE4 ?_; intro _) | refine wN ?_ | ((with_reducible show evIs _ (_ :: _) _ _); first | refine wQ ?_ | refine wF ?_ | refine wG ?_ | refine wT ?_ | refine wM ?_ | refine wS ?_ | refine wP ?_ | refine wJ ?_ | refine wX ?_ | refine wY ?_))
  clear hF
  repeat refine evDone ?_
  try (show AW _ _ _ _ _)
  refine AW.ret ⟨by simp [resP, a34_res, ARes.op], [], N, [.fptr (.agg [.int .i64 fn, .int .i64 pc, .sl .fro (avs slots), .sl .fro (avs stack), .sl .fro ys]) 0, .fptr y 0], ⟨rfl, rfl, rfl⟩, by omega, by simp, rfl, by simp, ?_⟩
  simp only [resV, a34_res, List.map_cons, List.map_nil, ARes.op]
  refine Fit.mk _ _ _ (by simp [he, hem, conv2, newEmp, convs_refl, convs, conv]) (by simp [he, hem, heapFit, newEmp, conv2s, conv2, convs_refl, convs, conv]) (by intro q hq; first | (simp at hq; done) | (simp at hq; omega) | (simp at hq; simp; omega))
theorem f20 (fs : List Frame) (hl : fs.length ≤ 1000000) (hm : ∀ f ∈ fs, f.marks.length ≤ 1000000) : ACall Try.prog 20 [.sl .fro (fs.map Frame.av)] (· = .bool (undoing fs)) := by
  refine a20_of (by simp) ?_
  rcases snoc_cases fs with rfl | ⟨A, ⟨fn, pc, slots, stack, marks⟩, rfl⟩
  · have h34 := f34a 100
    simp only [List.map_nil]
    repeat refine AW.seq ?_
    refine AW.reg ?_
    have hF := True.intro
    repeat (first | refine wD1 ?_ | refine wD2 ?_ | refine wE1 ?_ | refine wE2 ?_ | (refine wE3 ?_; intro _) | (refine wE4 ?_; intro _) | refine wN ?_ | ((with_reducible show evIs _ (_ :: _) _ _); first | refine wQ ?_ | refine wF ?_ | refine wG ?_ | refine wT ?_ | refine wM ?_ | refine wS ?_ | refine wP ?_ | refine wJ ?_ | refine wX ?_ | refine wY ?_))
    clear hF
    repeat refine evDone ?_
    try (show AW _ _ _ _ _)
    repeat refine AW.seq ?_
    refine AW.reg ?_
    have hF := True.intro
    repeat (first | refine wD1 ?_ | refine wD2 ?_ | refine wE1 ?_ | refine wE2 ?_ | (refine wE3 ?_; intro _) | (refine wE4 ?_; intro _) | refine wN ?_ | ((with_reducible show evIs _ (_ :: _) _ _); first | refine wQ ?_ | refine wF ?_ | refine wG ?_ | refine wT ?_ | refine wM ?_ | refine wS ?_ | refine wP ?_ | refine wJ ?_ | refine wX ?_ | refine wY ?_))
    clear hF
    repeat refine evDone ?_
    try (show AW _ _ _ _ _)
    have hF := True.intro
    refine wL (hA := h34) ?_
    clear hF
    rintro _ _ _ ⟨rfl, rfl, rfl⟩
    have hF := True.intro
    repeat (first | refine wD1 ?_ | refine wD2 ?_ | refine wE1 ?_ | refine wE2 ?_ | (refine wE3 ?_; intro _) | (refine wE4 ?_; intro _) | refine wN ?_ | ((with_reducible show evIs _ (_ :: _) _ _); first | refine wQ ?_ | refine wF ?_ | refine wG ?_ | refine wT ?_ | refine wM ?_ | refine wS ?_ | refine wP ?_ | refine wJ ?_ | refine wX ?_ | refine wY ?_))
    clear hF
    repeat refine evDone ?_
    try (show AW _ _ _ _ _)
    repeat refine AW.seq ?_
    refine AW.reg ?_
    have hF := True.intro
    repeat (first | refine wD1 ?_ | refine wD2 ?_ | refine wE1 ?_ | refine wE2 ?_ | (refine wE3 ?_; intro _) | (refine wE4 ?_; intro _) | refine wN ?_ | ((with_reducible show evIs _ (_ :: _) _ _); first | refine wQ ?_ | refine wF ?_ | refine wG ?_ | refine wT ?_ | refine wM ?_ | refine wS ?_ | refine wP ?_ | refine wJ ?_ | refine wX ?_ | refine wY ?_))
    clear hF
    repeat refine evDone ?_
    try (show AW _ _ _ _ _)
    refine AW.ret (retI rfl ?_)
    simp [undoing, a20_res, resOk, resP, resV, ARes.op, R2s, R2, R1s, R1, closeOk, closeV]
  have hA : A.length < 1000000 := by simp at hl; omega
  rcases snoc_cases marks with rfl | ⟨ms, m, rfl⟩
  · have h34 := f34b 100 A fn pc slots stack hA
    rw [undoing_none _ _ rfl]
    generalize (A ++ [Frame.mk fn pc slots stack []]).map Frame.av = es at *
    repeat refine AW.seq ?_
    refine AW.reg ?_
    have hF := True.intro
    repeat (first | refine wD1 ?_ | refine wD2 ?_ | refine wE1 ?_ | refine wE2 ?_ | (refine wE3 ?_; intro _) | (refine wE4 ?_; intro _) | refine wN ?_ | ((with_reducible show evIs _ (_ :: _) _ _); first | refine wQ ?_ | refine wF ?_ | refine wG ?_ | refine wT ?_ | refine wM ?_ | refine wS ?_ | refine wP ?_ | refine wJ ?_ | refine wX ?_ | refine wY ?_))
    clear hF
    repeat refine evDone ?_
    try (show AW _ _ _ _ _)
    repeat refine AW.seq ?_
    refine AW.reg ?_
    have hF := True.intro
    repeat (first | refine wD1 ?_ | refine wD2 ?_ | refine wE1 ?_ | refine wE2 ?_ | (refine wE3 ?_; intro _) | (refine wE4 ?_; intro _) | refine wN ?_ | ((with_reducible show evIs _ (_ :: _) _ _); first | refine wQ ?_ | refine wF ?_ | refine wG ?_ | refine wT ?_ | refine wM ?_ | refine wS ?_ | refine wP ?_ | refine wJ ?_ | refine wX ?_ | refine wY ?_))
    clear hF
    repeat refine evDone ?_
    try (show AW _ _ _ _ _)
    have hF := True.intro
    refine wL (hA := h34) ?_
    clear hF
    rintro _ _ _ ⟨rfl, rfl, rfl⟩
    have hF := True.intro
    repeat (first | refine wD1 ?_ | refine wD2 ?_ | refine wE1 ?_ | refine wE2 ?_ | (refine wE3 ?_; intro _) | (refine wE4 ?_; intro _) | refine wN ?_ | ((with_reducible show evIs _ (_ :: _) _ _); first | refine wQ ?_ | refine wF ?_ | refine wG ?_ | refine wT ?_ | refine wM ?_ | refine wS ?_ | refine wP ?_ | refine wJ ?_ | refine wX ?_ | refine wY ?_))
    clear hF
    repeat refine evDone ?_
    try (show AW _ _ _ _ _)
    repeat refine AW.seq ?_
    refine AW.reg ?_
    have hF := True.intro
    repeat (first | refine wD1 ?_ | refine wD2 ?_ | refine wE1 ?_ | refine wE2 ?_ | (refine wE3 ?_; intro _) | (refine wE4 ?_; intro _) | refine wN ?_ | ((with_reducible show evIs _ (_ :: _) _ _); first | refine wQ ?_ | refine wF ?_ | refine wG ?_ | refine wT ?_ | refine wM ?_ | refine wS ?_ | refine wP ?_ | refine wJ ?_ | refine wX ?_ | refine wY ?_))
    clear hF
    repeat refine evDone ?_
    try (show AW _ _ _ _ _)
    refine AW.ret (retI rfl ?_)
    simp [a20_res, resOk, resP, resV, ARes.op, R2s, R2, R1s, R1, closeOk, closeV]
  · have hml : ms.length < 1000000000000 := by have := hm ⟨fn, pc, slots, stack, ms ++ [m]⟩ (by simp); simp at this; omega
    have h34 := f34c 100 A fn pc slots stack ms m hA hml
    rw [undoing_some _ _ _ _ rfl]
    simp only [Frame.av] at h34
    generalize (A ++ [Frame.mk fn pc slots stack (ms ++ [m])]).map Frame.av = es at *
    generalize (ms ++ [m]).map Mark.av = ys at *
    obtain ⟨kind, target, slot, height, us, tk, tn, tt, ti, ts⟩ := m
    simp only [Mark.av] at h34 ⊢
    repeat refine AW.seq ?_
    refine AW.reg ?_
    have hF := True.intro
    repeat (first | refine wD1 ?_ | refine wD2 ?_ | refine wE1 ?_ | refine wE2 ?_ | (refine wE3 ?_; intro _) | (refine wE4 ?_; intro _) | refine wN ?_ | ((with_reducible show evIs _ (_ :: _) _ _); first | refine wQ ?_ | refine wF ?_ | refine wG ?_ | refine wT ?_ | refine wM ?_ | refine wS ?_ | refine wP ?_ | refine wJ ?_ | refine wX ?_ | refine wY ?_))
    clear hF
    repeat refine evDone ?_
    try (show AW _ _ _ _ _)
    repeat refine AW.seq ?_
    refine AW.reg ?_
    have hF := True.intro
    repeat (first | refine wD1 ?_ | refine wD2 ?_ | refine wE1 ?_ | refine wE2 ?_ | (refine wE3 ?_; intro _) | (refine wE4 ?_; intro _) | refine wN ?_ | ((with_reducible show evIs _ (_ :: _) _ _); first | refine wQ ?_ | refine wF ?_ | refine wG ?_ | refine wT ?_ | refine wM ?_ | refine wS ?_ | refine wP ?_ | refine wJ ?_ | refine wX ?_ | refine wY ?_))
    clear hF
    repeat refine evDone ?_
    try (show AW _ _ _ _ _)
    have hF := True.intro
    refine wL (hA := h34) ?_
    clear hF
    rintro _ _ _ ⟨rfl, rfl, rfl⟩
    have hF := True.intro
    repeat (first | refine wD1 ?_ | refine wD2 ?_ | refine wE1 ?_ | refine wE2 ?_ | (refine wE3 ?_; intro _) | (refine wE4 ?_; intro _) | refine wN ?_ | ((with_reducible show evIs _ (_ :: _) _ _); first | refine wQ ?_ | refine wF ?_ | refine wG ?_ | refine wT ?_ | refine wM ?_ | refine wS ?_ | refine wP ?_ | refine wJ ?_ | refine wX ?_ | refine wY ?_))
    clear hF
    repeat refine evDone ?_
    try (show AW _ _ _ _ _)
    repeat refine AW.seq ?_
    refine AW.reg ?_
    have hF := True.intro
    repeat (first | refine wD1 ?_ | refine wD2 ?_ | refine wE1 ?_ | refine wE2 ?_ | (refine wE3 ?_; intro _) | (refine wE4 ?_; intro _) | refine wN ?_ | ((with_reducible show evIs _ (_ :: _) _ _); first | refine wQ ?_ | refine wF ?_ | refine wG ?_ | refine wT ?_ | refine wM ?_ | refine wS ?_ | refine wP ?_ | refine wJ ?_ | refine wX ?_ | refine wY ?_))
    clear hF
    repeat refine evDone ?_
    try (show AW _ _ _ _ _)
    refine AW.ret (retI rfl ?_)
    simp [a20_res, resOk, resP, resV, ARes.op, R2s, R2, R1s, R1, closeOk, closeV]
theorem f21 (fs : List Frame) (hl : fs.length ≤ 1000000) (hm : ∀ f ∈ fs, f.marks.length ≤ 1000000) : ACall Try.prog 21 [.sl .fro (fs.map Frame.av)] (· = .bool (undoing fs)) := by
  refine a21_of (by simp) ?_
  rcases snoc_cases fs with rfl | ⟨A, ⟨fn, pc, slots, stack, marks⟩, rfl⟩
  · simp only [List.map_nil]
    repeat refine AW.seq ?_
    refine AW.reg ?_
    have hF := True.intro
    repeat (first | refine wD1 ?_ | refine wD2 ?_ | refine wE1 ?_ | refine wE2 ?_ | (refine wE3 ?_; intro _) | (refine wE4 ?_; intro _) | refine wN ?_ | ((with_reducible show evIs _ (_ :: _) _ _); first | refine wQ ?_ | refine wF ?_ | refine wG ?_ | refine wT ?_ | refine wM ?_ | refine wS ?_ | refine wP ?_ | refine wJ ?_ | refine wX ?_ | refine wY ?_))
    clear hF
    repeat refine evDone ?_
    try (show AW _ _ _ _ _)
    repeat refine AW.seq ?_
    refine AW.reg ?_
    have hF := True.intro
    repeat (first | refine wD1 ?_ | refine wD2 ?_ | refine wE1 ?_ | refine wE2 ?_ | (refine wE3 ?_; intro _) | (refine wE4 ?_; intro _) | refine wN ?_ | ((with_reducible show evIs _ (_ :: _) _ _); first | refine wQ ?_ | refine wF ?_ | refine wG ?_ | refine wT ?_ | refine wM ?_ | refine wS ?_ | refine wP ?_ | refine wJ ?_ | refine wX ?_ | refine wY ?_))
    clear hF
    repeat refine evDone ?_
    try (show AW _ _ _ _ _)
    repeat refine AW.seq ?_
    refine AW.condT (by simp []) (by simp []) ?_
    repeat refine AW.seq ?_
    refine AW.reg ?_
    have hF := True.intro
    repeat (first | refine wD1 ?_ | refine wD2 ?_ | refine wE1 ?_ | refine wE2 ?_ | (refine wE3 ?_; intro _) | (refine wE4 ?_; intro _) | refine wN ?_ | ((with_reducible show evIs _ (_ :: _) _ _); first | refine wQ ?_ | refine wF ?_ | refine wG ?_ | refine wT ?_ | refine wM ?_ | refine wS ?_ | refine wP ?_ | refine wJ ?_ | refine wX ?_ | refine wY ?_))
    clear hF
    repeat refine evDone ?_
    try (show AW _ _ _ _ _)
    refine AW.ret (retI rfl ?_)
    simp [undoing, a21_res, resOk, resP, resV, ARes.op, R2s, R2, R1s, R1, closeOk, closeV]
  have hA : A.length < 1000000 := by simp at hl; omega
  have hl2 : ((A ++ [Frame.mk fn pc slots stack marks]).map Frame.av).length = A.length + 1 := by simp
  have he : elemAt ((A ++ [Frame.mk fn pc slots stack marks]).map Frame.av) A.length = .agg [.int .i64 fn, .int .i64 pc, .sl .fro (avs slots), .sl .fro (avs stack), .sl .fro (marks.map Mark.av)] := by
    simp [elemAt, Frame.av]
  have hmb : marks.length ≤ 1000000 := hm ⟨fn, pc, slots, stack, marks⟩ (by simp)
  generalize hes : (A ++ [Frame.mk fn pc slots stack marks]).map Frame.av = es at *
  clear hes
  obtain ⟨k, hk⟩ : ∃ k, k = A.length := ⟨_, rfl⟩
  rw [← hk] at he hl2 hA
  have h1 : ¬ (k : Int) + 1 = 0 := by omega
  have hw : IntKind.i64.wrap (k : Int) = (k : Int) := i64_in _ ⟨by omega, by omega⟩
  have h2 : (0 : Int) ≤ k := by omega
  have h3 : (k : Int) < (k : Int) + 1 := by omega
  repeat refine AW.seq ?_
  refine AW.reg ?_
  have hF := True.intro
  repeat (first | refine wD1 ?_ | refine wD2 ?_ | refine wE1 ?_ | refine wE2 ?_ | (refine wE3 ?_; intro _) | (refine wE4 ?_; intro _) | refine wN ?_ | ((with_reducible show evIs _ (_ :: _) _ _); first | refine wQ ?_ | refine wF ?_ | refine wG ?_ | refine wT ?_ | refine wM ?_ | refine wS ?_ | refine wP ?_ | refine wJ ?_ | refine wX ?_ | refine wY ?_))
  clear hF
  repeat refine evDone ?_
  try (show AW _ _ _ _ _)
  repeat refine AW.seq ?_
  refine AW.reg ?_
  have hF := And.intro (h1) (hl2)
  repeat (first | refine wD1 ?_ | refine wD2 ?_ | refine wE1 ?_ | refine wE2 ?_ | (refine wE3 ?_; intro _) | (refine wE4 ?_; intro _) | refine wN ?_ | ((with_reducible show evIs _ (_ :: _) _ _); first | refine wQ ?_ | refine wF ?_ | refine wG ?_ | refine wT ?_ | refine wM ?_ | refine wS ?_ | refine wP ?_ | refine wJ ?_ | refine wX ?_ | refine wY ?_))
  clear hF
  repeat refine evDone ?_
  try (show AW _ _ _ _ _)
  repeat refine AW.seq ?_
  refine AW.condF (by simp [h1, hl2]) (by simp [h1, hl2]) ?_
  refine AW.skip ?_
  show AW _ _ _ _ _
  repeat refine AW.seq ?_
  refine AW.reg ?_
  have hF := And.intro (hw) (And.intro (h1) (And.intro (h2) (And.intro (h3) (And.intro (hl2) (he)))))
  repeat (first | refine wD1 ?_ | refine wD2 ?_ | refine wE1 ?_ | refine wE2 ?_ | (refine wE3 ?_; intro _) | (refine wE4 ?_; intro _) | refine wN ?_ | ((with_reducible show evIs _ (_ :: _) _ _); first | refine wQ ?_ | refine wF ?_ | refine wG ?_ | refine wT ?_ | refine wM ?_ | refine wS ?_ | refine wP ?_ | refine wJ ?_ | refine wX ?_ | refine wY ?_))
  clear hF
  repeat refine evDone ?_
  try (show AW _ _ _ _ _)
  rcases snoc_cases marks with rfl | ⟨ms, m, rfl⟩
  · rw [undoing_none _ _ rfl]
    simp only [List.map_nil]
    repeat refine AW.seq ?_
    refine AW.reg ?_
    have hF := True.intro
    repeat (first | refine wD1 ?_ | refine wD2 ?_ | refine wE1 ?_ | refine wE2 ?_ | (refine wE3 ?_; intro _) | (refine wE4 ?_; intro _) | refine wN ?_ | ((with_reducible show evIs _ (_ :: _) _ _); first | refine wQ ?_ | refine wF ?_ | refine wG ?_ | refine wT ?_ | refine wM ?_ | refine wS ?_ | refine wP ?_ | refine wJ ?_ | refine wX ?_ | refine wY ?_))
    clear hF
    repeat refine evDone ?_
    try (show AW _ _ _ _ _)
    refine AW.ret (retI rfl ?_)
    simp [a21_res, resOk, resP, resV, ARes.op, R2s, R2, R1s, R1, closeOk, closeV]
  · rw [undoing_some _ _ _ _ rfl]
    have hm2 : ((ms ++ [m]).map Mark.av).length = ms.length + 1 := by simp
    have hem : elemAt ((ms ++ [m]).map Mark.av) ms.length = m.av := by simp [elemAt]
    have hcm : (cellsOf m.av).length = 10 := mark_len m
    have hml : ms.length < 1000000000000 := by simp at hmb; omega
    generalize (ms ++ [m]).map Mark.av = ys at *
    obtain ⟨kind, target, slot, height, us, tk, tn, tt, ti, ts⟩ := m
    simp only [Mark.av] at hem hcm ⊢
    generalize ms.length = j at *
    have h1' : (0 : Int) < (j : Int) + 1 := by omega
    have hw' : IntKind.i64.wrap (j : Int) = (j : Int) := i64_in _ ⟨by omega, by omega⟩
    have h2' : (0 : Int) ≤ j := by omega
    have h3' : (j : Int) < (j : Int) + 1 := by omega
    repeat refine AW.seq ?_
    refine AW.reg ?_
    have hF := And.intro (hw') (And.intro (h1') (And.intro (h2') (And.intro (h3') (And.intro (hm2) (hem)))))
    repeat (first | refine wD1 ?_ | refine wD2 ?_ | refine wE1 ?_ | refine wE2 ?_ | (refine wE3 ?_; intro _) | (refine wE4 ?_; intro _) | refine wN ?_ | ((with_reducible show evIs _ (_ :: _) _ _); first | refine wQ ?_ | refine wF ?_ | refine wG ?_ | refine wT ?_ | refine wM ?_ | refine wS ?_ | refine wP ?_ | refine wJ ?_ | refine wX ?_ | refine wY ?_))
    clear hF
    repeat refine evDone ?_
    try (show AW _ _ _ _ _)
    refine AW.ret (retI rfl ?_)
    simp [a21_res, resOk, resP, resV, ARes.op, R2s, R2, R1s, R1, closeOk, closeV]
end Go.Proofs.Ytafkaofaioleiaa

set_option linter.unusedSimpArgs false
set_option linter.unusedVariables false
set_option maxHeartbeats 16000000
namespace Go.Proofs.Ytafkaofaioleiaa
open Go Go.Amb Go.IntWalk

def zeroV : Val := .mk 0 0 ⟨#[]⟩ [] []
/-- What Next gives. -/
def nextF (fs : List Frame) : List Frame × Undo × Val × Bool :=
  match fs.getLast? with
  | none => (fs, noneU, zeroV, false)
  | some f => match f.marks.getLast? with
    | none => (fs, noneU, zeroV, false)
    | some m => if m.kind = 3 then
        match m.undos.getLast? with
        | some u => (fs.dropLast ++ [⟨f.fn, f.pc, f.slots, f.stack, f.marks.dropLast ++ [{ m with undos := m.undos.dropLast }]⟩], u, zeroV, false)
        | none => (fs.dropLast ++ [⟨f.fn, f.pc, f.slots, f.stack, f.marks.dropLast⟩], noneU, m.th, true)
      else (fs, noneU, zeroV, false)
def resN : List Frame × Undo × Val × Bool → AV
  | (fs, u, v, b) => .tup [.sl (.own 5) (fs.map Frame.ao), u.av, v.av, .bool b]
theorem nextF_nil : nextF [] = ([], noneU, zeroV, false) := rfl
theorem nextF_none (A : List Frame) (f : Frame) (h : f.marks = []) : nextF (A ++ [f]) = (A ++ [f], noneU, zeroV, false) := by simp [nextF, h]
theorem nextF_other (A : List Frame) (f : Frame) (ms : List Mark) (m : Mark) (h : f.marks = ms ++ [m]) (hk : ¬ m.kind = 3) : nextF (A ++ [f]) = (A ++ [f], noneU, zeroV, false) := by simp [nextF, h, hk]
theorem nextF_end (A : List Frame) (f : Frame) (ms : List Mark) (m : Mark) (h : f.marks = ms ++ [m]) (hk : m.kind = 3) (hu : m.undos = []) : nextF (A ++ [f]) = (A ++ [⟨f.fn, f.pc, f.slots, f.stack, ms⟩], noneU, m.th, true) := by simp [nextF, h, hk, hu]
theorem nextF_undo (A : List Frame) (f : Frame) (ms : List Mark) (m : Mark) (us : List Undo) (u : Undo) (h : f.marks = ms ++ [m]) (hk : m.kind = 3) (hu : m.undos = us ++ [u]) : nextF (A ++ [f]) = (A ++ [⟨f.fn, f.pc, f.slots, f.stack, ms ++ [{ m with undos := us }]⟩], u, zeroV, false) := by simp [nextF, h, hk, hu]
theorem f17 (ls : List Frame) (hok : oks ls) (hb : ls.length ≤ 1000) : ACall Try.prog 17 [.sl .fro (ls.map Frame.av)] (· = resN (nextF ls)) := by
  have h32 := f32 ls (fun f hf => (hok f hf).1) (by omega)
  obtain ⟨N, hN⟩ : ∃ N, N = nextF ls := ⟨_, rfl⟩
  rw [← hN]
  refine a17_of (by simp) ?_
  repeat refine AW.seq ?_
  refine AW.reg ?_
  have hF := True.intro
  repeat (first | refine wD1 ?_ | refine wD2 ?_ | refine wE1 ?_ | refine wE2 ?_ | (refine wE3 ?_; intro _) | (refine wE4 ?_; intro _) | refine wN ?_ | ((with_reducible show evIs _ (_ :: _) _ _); first | refine wQ ?_ | refine wF ?_ | refine wG ?_ | refine wT ?_ | refine wM ?_ | refine wS ?_ | refine wP ?_ | refine wJ ?_ | refine wX ?_ | refine wY ?_))
  clear hF
  repeat refine evDone ?_
  try (show AW _ _ _ _ _)
  repeat refine AW.seq ?_
  refine AW.reg ?_
  have hF := True.intro
  repeat (first | refine wD1 ?_ | refine wD2 ?_ | refine wE1 ?_ | refine wE2 ?_ | (refine wE3 ?_; intro _) | (refine wE4 ?_; intro _) | refine wN ?_ | ((with_reducible show evIs _ (_ :: _) _ _); first | refine wQ ?_ | refine wF ?_ | refine wG ?_ | refine wT ?_ | refine wM ?_ | refine wS ?_ | refine wP ?_ | refine wJ ?_ | refine wX ?_ | refine wY ?_))
  clear hF
  repeat refine evDone ?_
  try (show AW _ _ _ _ _)
  have hF := True.intro
  refine wA (hA := h32) ?_
  clear hF
  have hF := True.intro
  repeat (first | refine wD1 ?_ | refine wD2 ?_ | refine wE1 ?_ | refine wE2 ?_ | (refine wE3 ?_; intro _) | (refine wE4 ?_; intro _) | refine wN ?_ | ((with_reducible show evIs _ (_ :: _) _ _); first | refine wQ ?_ | refine wF ?_ | refine wG ?_ | refine wT ?_ | refine wM ?_ | refine wS ?_ | refine wP ?_ | refine wJ ?_ | refine wX ?_ | refine wY ?_))
  clear hF
  repeat refine evDone ?_
  try (show AW _ _ _ _ _)
  rcases snoc_cases ls with rfl | ⟨A, ⟨fn, pc, slots, stack, marks⟩, rfl⟩
  · have h38 := f38_nil 100 5 (by omega)
    rw [nextF_nil] at hN
    subst hN
    simp only [List.map_nil, List.length_nil]
    repeat refine AW.seq ?_
    refine AW.reg ?_
    have hF := True.intro
    repeat (first | refine wD1 ?_ | refine wD2 ?_ | refine wE1 ?_ | refine wE2 ?_ | (refine wE3 ?_; intro _) | (refine wE4 ?_; intro _) | refine wN ?_ | ((with_reducible show evIs _ (_ :: _) _ _); first | refine wQ ?_ | refine wF ?_ | refine wG ?_ | refine wT ?_ | refine wM ?_ | refine wS ?_ | refine wP ?_ | refine wJ ?_ | refine wX ?_ | refine wY ?_))
    clear hF
    repeat refine evDone ?_
    try (show AW _ _ _ _ _)
    have hF := True.intro
    refine wL (hA := h38) ?_
    clear hF
    rintro _ _ _ ⟨rfl, rfl, rfl⟩
    have hF := True.intro
    repeat (first | refine wD1 ?_ | refine wD2 ?_ | refine wE1 ?_ | refine wE2 ?_ | (refine wE3 ?_; intro _) | (refine wE4 ?_; intro _) | refine wN ?_ | ((with_reducible show evIs _ (_ :: _) _ _); first | refine wQ ?_ | refine wF ?_ | refine wG ?_ | refine wT ?_ | refine wM ?_ | refine wS ?_ | refine wP ?_ | refine wJ ?_ | refine wX ?_ | refine wY ?_))
    clear hF
    repeat refine evDone ?_
    try (show AW _ _ _ _ _)
    repeat refine AW.seq ?_
    refine AW.draw ?_
    have hF := True.intro
    repeat (first | refine wD1 ?_ | refine wD2 ?_ | refine wE1 ?_ | refine wE2 ?_ | (refine wE3 ?_; intro _) | (refine wE4 ?_; intro _) | refine wN ?_ | ((with_reducible show evIs _ (_ :: _) _ _); first | refine wQ ?_ | refine wF ?_ | refine wG ?_ | refine wT ?_ | refine wM ?_ | refine wS ?_ | refine wP ?_ | refine wJ ?_ | refine wX ?_ | refine wY ?_))
    clear hF
    repeat refine evDone ?_
    try (show AW _ _ _ _ _)
    refine AW.ret (retI (r := resN ([], noneU, zeroV, false)) rfl ?_)
    simp [resN, noneU, zeroV, Undo.av, Val.av, Mark.th, avs, a17_res, hupd, resOk, resP, resV, ARes.op, R2s, R2, R1s, R1, closeOk, closeV]
  obtain ⟨hAok, hfok⟩ := oks_snoc.1 hok
  have hkA : A.length < 1000000 := by simp at hb; omega
  have hA1 := ao_len A
  have hA2 := ao_shut A
  have he := elem_snoc Frame.ao A
  have hset := set_snoc Frame.ao A
  have htk := take_snoc Frame.ao A
  simp only [List.map_append, List.map_cons, List.map_nil, List.length_append, List.length_cons, List.length_nil, Nat.zero_add]
  refine AW.fit (st' := mkS [(0, .hdr 5 0 (A.length + 1)), (2, .sl .ext []), (3, .ptr 1 0 0), (4, .ptr 2 0 0), (5, .bool false)] [(5, ⟨5, false, A.map Frame.ao ++ [Frame.ao ⟨fn, pc, slots, stack, marks⟩]⟩), (1, ⟨2, true, [.agg [.int .i64 0, .sl .ext []]]⟩), (2, ⟨5, true, [.agg [.int .i64 0, .int .i64 0, .str ⟨#[]⟩, .sl .ext [], .sl .ext []]]⟩)] 100) ?_ ?_
  · refine Fit.mk _ _ _ (by simp [conv2, newEmp, convs_refl, convs, conv]) (by simp [heapFit, newEmp, conv2s, conv2, convs_refl, convs, conv]) (by intro q hq; first | (simp at hq; done) | (simp at hq; omega) | (simp at hq; simp; omega))
  rw [mkS_eq]
  refine AW.fit (openLast 5 300 301 (A.map Frame.ao) ⟨fn, pc, slots, stack, marks⟩ (by simp) hA1 (by simp) (by simp) (by omega)) ?_
  refine AW.fit (st' := mkS [(0, .hdr 5 0 (A.length + 1)), (2, .sl .ext []), (3, .ptr 1 0 0), (4, .ptr 2 0 0), (5, .bool false)] [(5, ⟨5, true, A.map Frame.ao ++ [.agg [.int .i64 fn, .int .i64 pc, .hdr 300 0 slots.length, .sl .fro (avs stack), .hdr 301 0 marks.length]]⟩), (300, ⟨5, false, avs slots⟩), (301, ⟨10, false, marks.map Mark.av⟩), (1, ⟨2, true, [.agg [.int .i64 0, .sl .ext []]]⟩), (2, ⟨5, true, [.agg [.int .i64 0, .int .i64 0, .str ⟨#[]⟩, .sl .ext [], .sl .ext []]]⟩)] 310) ?_ ?_
  · refine Fit.mk _ _ _ (by simp [hupd, uupd, rowH, conv2, newEmp, convs_refl, convs, conv]) (by simp [hupd, uupd, rowH, heapFit, newEmp, conv2s, conv2, convs_refl, convs, conv]) (by intro q hq; first | (simp at hq; done) | (simp at hq; omega) | (simp at hq; simp; omega))
  rcases snoc_cases marks with rfl | ⟨ms, ⟨kind, target, slot, height, us, tk, tn, tt, ti, ts⟩, rfl⟩
  · rw [nextF_none _ _ rfl] at hN
    have h38 := f38_none 400 5 300 301 A.length slots.length (A.map Frame.ao ++ ([.agg [.int .i64 fn, .int .i64 pc, .hdr 300 0 slots.length, .sl .fro (avs stack), .hdr 301 0 0]] : List AV)) fn pc stack (by simp) (he _) hkA (by omega)
    simp only [List.map_nil, List.length_nil]
    repeat refine AW.seq ?_
    refine AW.reg ?_
    have hF := True.intro
    repeat (first | refine wD1 ?_ | refine wD2 ?_ | refine wE1 ?_ | refine wE2 ?_ | (refine wE3 ?_; intro _) | (refine wE4 ?_; intro _) | refine wN ?_ | ((with_reducible show evIs _ (_ :: _) _ _); first | refine wQ ?_ | refine wF ?_ | refine wG ?_ | refine wT ?_ | refine wM ?_ | refine wS ?_ | refine wP ?_ | refine wJ ?_ | refine wX ?_ | refine wY ?_))
    clear hF
    repeat refine evDone ?_
    try (show AW _ _ _ _ _)
    have hF := True.intro
    refine wL (hA := h38) ?_
    clear hF
    rintro _ _ _ ⟨rfl, rfl, rfl⟩
    have hF := True.intro
    repeat (first | refine wD1 ?_ | refine wD2 ?_ | refine wE1 ?_ | refine wE2 ?_ | (refine wE3 ?_; intro _) | (refine wE4 ?_; intro _) | refine wN ?_ | ((with_reducible show evIs _ (_ :: _) _ _); first | refine wQ ?_ | refine wF ?_ | refine wG ?_ | refine wT ?_ | refine wM ?_ | refine wS ?_ | refine wP ?_ | refine wJ ?_ | refine wX ?_ | refine wY ?_))
    clear hF
    repeat refine evDone ?_
    try (show AW _ _ _ _ _)
    repeat refine AW.seq ?_
    refine AW.draw ?_
    have hF := True.intro
    repeat (first | refine wD1 ?_ | refine wD2 ?_ | refine wE1 ?_ | refine wE2 ?_ | (refine wE3 ?_; intro _) | (refine wE4 ?_; intro _) | refine wN ?_ | ((with_reducible show evIs _ (_ :: _) _ _); first | refine wQ ?_ | refine wF ?_ | refine wG ?_ | refine wT ?_ | refine wM ?_ | refine wS ?_ | refine wP ?_ | refine wJ ?_ | refine wX ?_ | refine wY ?_))
    clear hF
    repeat refine evDone ?_
    try (show AW _ _ _ _ _)
    refine AW.fit (st' := mkS [(2, .hdr 5 0 (A.length + 1)), (3, .ptr 1 0 0), (4, .ptr 2 0 0), (5, .bool false)] [(5, ⟨5, true, A.map Frame.ao ++ [.agg [.int .i64 fn, .int .i64 pc, .hdr 300 0 slots.length, .sl .fro (avs stack), .hdr 301 0 0]]⟩), (300, ⟨5, false, avs slots⟩), (301, ⟨10, false, []⟩), (1, ⟨2, true, [.agg [.int .i64 (-1), .sl .fro []]]⟩), (2, ⟨5, true, [.agg [.int .i64 0, .int .i64 0, .str ⟨#[]⟩, .sl .fro [], .sl .fro []]]⟩)] 900) ?_ ?_
    · refine Fit.mk _ _ _ (by simp [conv2, newEmp, convs_refl, convs, conv]) (by simp [heapFit, newEmp, conv2s, conv2, convs_refl, convs, conv]) (by intro q hq; first | (simp at hq; done) | (simp at hq; omega) | (simp at hq; simp; omega))
    rw [mkS_eq]
    refine AW.fit (shutLast 5 300 301 (A.map Frame.ao) fn pc slots stack ([]) ([]) (0) (by simp [rowH]) (by simp) (by simp) (by simp) (by simp [Mark.av]) hA1 hA2 (by omega) (by omega) (by omega)) ?_
    refine AW.ret (retI (r := resN (A ++ [⟨fn, pc, slots, stack, []⟩], noneU, zeroV, false)) (by rw [hN] <;> rfl) ?_)
    simp [resN, noneU, zeroV, Undo.av, Val.av, Mark.th, avs, a17_res, htk, hupd, resOk, resP, resV, ARes.op, R2s, R2, R1s, R1, closeOk, closeV]
  have hml : ms.length < 1000000000000 := by have := hfok.2; simp at this; omega
  have hmo : Mark.ok ⟨kind, target, slot, height, us, tk, tn, tt, ti, ts⟩ := hfok.1.2.2.2.2.2 _ (by simp)
  have hul : us.length < 10000000000000 := by have := hmo.1; dsimp only at this; omega
  have heM := elem_snoc Mark.av ms
  have hsetM := set_snoc Mark.av ms
  have htM := take_snoc Mark.av ms
  simp only [List.map_append, List.map_cons, List.map_nil, List.length_append, List.length_cons, List.length_nil, Nat.zero_add, Mark.av]
  by_cases k3 : kind = 3
  · subst k3
    rcases snoc_cases us with rfl | ⟨us, w, rfl⟩
    · rw [nextF_end A _ ms ⟨3, target, slot, height, [], tk, tn, tt, ti, ts⟩ rfl rfl rfl] at hN
      have h38 := f38_end 400 5 300 301 A.length ms.length slots.length (A.map Frame.ao ++ ([.agg [.int .i64 fn, .int .i64 pc, .hdr 300 0 slots.length, .sl .fro (avs stack), .hdr 301 0 (ms.length + 1)]] : List AV)) (ms ++ [⟨3, target, slot, height, [], tk, tn, tt, ti, ts⟩]) ⟨3, target, slot, height, [], tk, tn, tt, ti, ts⟩ fn pc stack (by simp) (he _) (by simp) (by simp) rfl hkA hml (by omega) (by omega) (by omega) rfl
      simp only [List.map_append, List.map_cons, List.map_nil, Mark.av, hset, hsetM] at h38
      repeat refine AW.seq ?_
      refine AW.reg ?_
      have hF := True.intro
      repeat (first | refine wD1 ?_ | refine wD2 ?_ | refine wE1 ?_ | refine wE2 ?_ | (refine wE3 ?_; intro _) | (refine wE4 ?_; intro _) | refine wN ?_ | ((with_reducible show evIs _ (_ :: _) _ _); first | refine wQ ?_ | refine wF ?_ | refine wG ?_ | refine wT ?_ | refine wM ?_ | refine wS ?_ | refine wP ?_ | refine wJ ?_ | refine wX ?_ | refine wY ?_))
      clear hF
      repeat refine evDone ?_
      try (show AW _ _ _ _ _)
      have hF := True.intro
      refine wL (hA := h38) ?_
      clear hF
      rintro _ _ _ ⟨rfl, rfl, rfl⟩
      have hF := True.intro
      repeat (first | refine wD1 ?_ | refine wD2 ?_ | refine wE1 ?_ | refine wE2 ?_ | (refine wE3 ?_; intro _) | (refine wE4 ?_; intro _) | refine wN ?_ | ((with_reducible show evIs _ (_ :: _) _ _); first | refine wQ ?_ | refine wF ?_ | refine wG ?_ | refine wT ?_ | refine wM ?_ | refine wS ?_ | refine wP ?_ | refine wJ ?_ | refine wX ?_ | refine wY ?_))
      clear hF
      repeat refine evDone ?_
      try (show AW _ _ _ _ _)
      repeat refine AW.seq ?_
      refine AW.draw ?_
      have hF := True.intro
      repeat (first | refine wD1 ?_ | refine wD2 ?_ | refine wE1 ?_ | refine wE2 ?_ | (refine wE3 ?_; intro _) | (refine wE4 ?_; intro _) | refine wN ?_ | ((with_reducible show evIs _ (_ :: _) _ _); first | refine wQ ?_ | refine wF ?_ | refine wG ?_ | refine wT ?_ | refine wM ?_ | refine wS ?_ | refine wP ?_ | refine wJ ?_ | refine wX ?_ | refine wY ?_))
      clear hF
      repeat refine evDone ?_
      try (show AW _ _ _ _ _)
      refine AW.fit (st' := mkS [(2, .hdr 5 0 (A.length + 1)), (3, .ptr 1 0 0), (4, .ptr 2 0 0), (5, .bool true)] [(5, ⟨5, true, A.map Frame.ao ++ [.agg [.int .i64 fn, .int .i64 pc, .hdr 300 0 slots.length, .sl .fro (avs stack), .hdr 301 0 ms.length]]⟩), (300, ⟨5, false, avs slots⟩), (301, ⟨10, false, ms.map Mark.av ++ [.agg [.int .i64 3, .int .i64 target, .int .i64 slot, .int .i64 height, .sl .fro ([]), .int .i64 tk, .int .i64 tn, .str tt, .sl .fro (avs ti), .sl .fro (ts.map .str)]]⟩), (1, ⟨2, true, [.agg [.int .i64 (-1), .sl .fro []]]⟩), (2, ⟨5, true, [.agg [.int .i64 tk, .int .i64 tn, .str tt, .sl .fro (avs ti), .sl .fro (ts.map .str)]]⟩)] 900) ?_ ?_
      · refine Fit.mk _ _ _ (by simp [conv2, newEmp, convs_refl, convs, conv]) (by simp [heapFit, newEmp, conv2s, conv2, convs_refl, convs, conv]) (by intro q hq; first | (simp at hq; done) | (simp at hq; omega) | (simp at hq; simp; omega))
      rw [mkS_eq]
      refine AW.fit (shutLast 5 300 301 (A.map Frame.ao) fn pc slots stack (ms) (ms.map Mark.av ++ [.agg [.int .i64 3, .int .i64 target, .int .i64 slot, .int .i64 height, .sl .fro ([]), .int .i64 tk, .int .i64 tn, .str tt, .sl .fro (avs ti), .sl .fro (ts.map .str)]]) (ms.length) (by simp [rowH]) (by simp) (by simp) (by simp) (by simp [Mark.av]) hA1 hA2 (by omega) (by omega) (by omega)) ?_
      refine AW.ret (retI (r := resN (A ++ [⟨fn, pc, slots, stack, ms⟩], noneU, Val.mk tk tn tt ti ts, true)) (by rw [hN] <;> rfl) ?_)
      simp [resN, noneU, zeroV, Undo.av, Val.av, Mark.th, avs, a17_res, htk, hupd, resOk, resP, resV, ARes.op, R2s, R2, R1s, R1, closeOk, closeV]
    · rw [nextF_undo A _ ms ⟨3, target, slot, height, us ++ [w], tk, tn, tt, ti, ts⟩ us w rfl rfl rfl] at hN
      have h38 := f38_undo 400 5 300 301 A.length ms.length slots.length (A.map Frame.ao ++ ([.agg [.int .i64 fn, .int .i64 pc, .hdr 300 0 slots.length, .sl .fro (avs stack), .hdr 301 0 (ms.length + 1)]] : List AV)) (ms ++ [⟨3, target, slot, height, us ++ [w], tk, tn, tt, ti, ts⟩]) ⟨3, target, slot, height, us ++ [w], tk, tn, tt, ti, ts⟩ fn pc stack (by simp) (he _) (by simp) (by simp) us.length w (by simp) (by simp) (by simp at hul; omega) hkA hml (by omega) (by omega) (by omega) rfl
      obtain ⟨wf, wa⟩ := w
      simp only [List.map_append, List.map_cons, List.map_nil, Mark.av, Undo.av, hset, hsetM, List.take_left] at h38 ⊢
      repeat refine AW.seq ?_
      refine AW.reg ?_
      have hF := True.intro
      repeat (first | refine wD1 ?_ | refine wD2 ?_ | refine wE1 ?_ | refine wE2 ?_ | (refine wE3 ?_; intro _) | (refine wE4 ?_; intro _) | refine wN ?_ | ((with_reducible show evIs _ (_ :: _) _ _); first | refine wQ ?_ | refine wF ?_ | refine wG ?_ | refine wT ?_ | refine wM ?_ | refine wS ?_ | refine wP ?_ | refine wJ ?_ | refine wX ?_ | refine wY ?_))
      clear hF
      repeat refine evDone ?_
      try (show AW _ _ _ _ _)
      have hF := True.intro
      refine wL (hA := h38) ?_
      clear hF
      rintro _ _ _ ⟨rfl, rfl, rfl⟩
      have hF := True.intro
      repeat (first | refine wD1 ?_ | refine wD2 ?_ | refine wE1 ?_ | refine wE2 ?_ | (refine wE3 ?_; intro _) | (refine wE4 ?_; intro _) | refine wN ?_ | ((with_reducible show evIs _ (_ :: _) _ _); first | refine wQ ?_ | refine wF ?_ | refine wG ?_ | refine wT ?_ | refine wM ?_ | refine wS ?_ | refine wP ?_ | refine wJ ?_ | refine wX ?_ | refine wY ?_))
      clear hF
      repeat refine evDone ?_
      try (show AW _ _ _ _ _)
      repeat refine AW.seq ?_
      refine AW.draw ?_
      have hF := True.intro
      repeat (first | refine wD1 ?_ | refine wD2 ?_ | refine wE1 ?_ | refine wE2 ?_ | (refine wE3 ?_; intro _) | (refine wE4 ?_; intro _) | refine wN ?_ | ((with_reducible show evIs _ (_ :: _) _ _); first | refine wQ ?_ | refine wF ?_ | refine wG ?_ | refine wT ?_ | refine wM ?_ | refine wS ?_ | refine wP ?_ | refine wJ ?_ | refine wX ?_ | refine wY ?_))
      clear hF
      repeat refine evDone ?_
      try (show AW _ _ _ _ _)
      refine AW.fit (st' := mkS [(2, .hdr 5 0 (A.length + 1)), (3, .ptr 1 0 0), (4, .ptr 2 0 0), (5, .bool false)] [(5, ⟨5, true, A.map Frame.ao ++ [.agg [.int .i64 fn, .int .i64 pc, .hdr 300 0 slots.length, .sl .fro (avs stack), .hdr 301 0 (ms.length + 1)]]⟩), (300, ⟨5, false, avs slots⟩), (301, ⟨10, false, ms.map Mark.av ++ [.agg [.int .i64 3, .int .i64 target, .int .i64 slot, .int .i64 height, .sl .fro (us.map Undo.av), .int .i64 tk, .int .i64 tn, .str tt, .sl .fro (avs ti), .sl .fro (ts.map .str)]]⟩), (1, ⟨2, true, [.agg [.int .i64 wf, .sl .fro (avs wa)]]⟩), (2, ⟨5, true, [.agg [.int .i64 0, .int .i64 0, .str ⟨#[]⟩, .sl .fro [], .sl .fro []]]⟩)] 900) ?_ ?_
      · refine Fit.mk _ _ _ (by simp [htM, conv2, newEmp, convs_refl, convs, conv]) (by simp [htM, heapFit, newEmp, conv2s, conv2, convs_refl, convs, conv]) (by intro q hq; first | (simp at hq; done) | (simp at hq; omega) | (simp at hq; simp; omega))
      rw [mkS_eq]
      refine AW.fit (shutLast 5 300 301 (A.map Frame.ao) fn pc slots stack (ms ++ [⟨3, target, slot, height, us, tk, tn, tt, ti, ts⟩]) (ms.map Mark.av ++ [.agg [.int .i64 3, .int .i64 target, .int .i64 slot, .int .i64 height, .sl .fro (us.map Undo.av), .int .i64 tk, .int .i64 tn, .str tt, .sl .fro (avs ti), .sl .fro (ts.map .str)]]) ((ms.length + 1)) (by simp [rowH]) (by simp) (by simp) (by simp) (by simp [Mark.av, htM]) hA1 hA2 (by omega) (by omega) (by omega)) ?_
      refine AW.ret (retI (r := resN (A ++ [⟨fn, pc, slots, stack, ms ++ [⟨3, target, slot, height, us, tk, tn, tt, ti, ts⟩]⟩], ⟨wf, wa⟩, zeroV, false)) (by rw [hN] <;> rfl) ?_)
      simp [resN, noneU, zeroV, Undo.av, Val.av, Mark.th, avs, a17_res, htk, hupd, resOk, resP, resV, ARes.op, R2s, R2, R1s, R1, closeOk, closeV]
  · rw [nextF_other A _ ms ⟨kind, target, slot, height, us, tk, tn, tt, ti, ts⟩ rfl k3] at hN
    have h38 := f38_other 400 5 300 301 A.length ms.length slots.length (A.map Frame.ao ++ ([.agg [.int .i64 fn, .int .i64 pc, .hdr 300 0 slots.length, .sl .fro (avs stack), .hdr 301 0 (ms.length + 1)]] : List AV)) (ms ++ [⟨kind, target, slot, height, us, tk, tn, tt, ti, ts⟩]) ⟨kind, target, slot, height, us, tk, tn, tt, ti, ts⟩ fn pc stack (by simp) (he _) (by simp) (by simp) hkA hml (by omega) (by omega) (by omega) k3
    simp only [List.map_append, List.map_cons, List.map_nil, Mark.av, hset, hsetM] at h38
    repeat refine AW.seq ?_
    refine AW.reg ?_
    have hF := True.intro
    repeat (first | refine wD1 ?_ | refine wD2 ?_ | refine wE1 ?_ | refine wE2 ?_ | (refine wE3 ?_; intro _) | (refine wE4 ?_; intro _) | refine wN ?_ | ((with_reducible show evIs _ (_ :: _) _ _); first | refine wQ ?_ | refine wF ?_ | refine wG ?_ | refine wT ?_ | refine wM ?_ | refine wS ?_ | refine wP ?_ | refine wJ ?_ | refine wX ?_ | refine wY ?_))
    clear hF
    repeat refine evDone ?_
    try (show AW _ _ _ _ _)
    have hF := True.intro
    refine wL (hA := h38) ?_
    clear hF
    rintro _ _ _ ⟨rfl, rfl, rfl⟩
    have hF := True.intro
    repeat (first | refine wD1 ?_ | refine wD2 ?_ | refine wE1 ?_ | refine wE2 ?_ | (refine wE3 ?_; intro _) | (refine wE4 ?_; intro _) | refine wN ?_ | ((with_reducible show evIs _ (_ :: _) _ _); first | refine wQ ?_ | refine wF ?_ | refine wG ?_ | refine wT ?_ | refine wM ?_ | refine wS ?_ | refine wP ?_ | refine wJ ?_ | refine wX ?_ | refine wY ?_))
    clear hF
    repeat refine evDone ?_
    try (show AW _ _ _ _ _)
    repeat refine AW.seq ?_
    refine AW.draw ?_
    have hF := True.intro
    repeat (first | refine wD1 ?_ | refine wD2 ?_ | refine wE1 ?_ | refine wE2 ?_ | (refine wE3 ?_; intro _) | (refine wE4 ?_; intro _) | refine wN ?_ | ((with_reducible show evIs _ (_ :: _) _ _); first | refine wQ ?_ | refine wF ?_ | refine wG ?_ | refine wT ?_ | refine wM ?_ | refine wS ?_ | refine wP ?_ | refine wJ ?_ | refine wX ?_ | refine wY ?_))
    clear hF
    repeat refine evDone ?_
    try (show AW _ _ _ _ _)
    refine AW.fit (st' := mkS [(2, .hdr 5 0 (A.length + 1)), (3, .ptr 1 0 0), (4, .ptr 2 0 0), (5, .bool false)] [(5, ⟨5, true, A.map Frame.ao ++ [.agg [.int .i64 fn, .int .i64 pc, .hdr 300 0 slots.length, .sl .fro (avs stack), .hdr 301 0 (ms.length + 1)]]⟩), (300, ⟨5, false, avs slots⟩), (301, ⟨10, false, ms.map Mark.av ++ [.agg [.int .i64 kind, .int .i64 target, .int .i64 slot, .int .i64 height, .sl .fro (us.map Undo.av), .int .i64 tk, .int .i64 tn, .str tt, .sl .fro (avs ti), .sl .fro (ts.map .str)]]⟩), (1, ⟨2, true, [.agg [.int .i64 (-1), .sl .fro []]]⟩), (2, ⟨5, true, [.agg [.int .i64 0, .int .i64 0, .str ⟨#[]⟩, .sl .fro [], .sl .fro []]]⟩)] 900) ?_ ?_
    · refine Fit.mk _ _ _ (by simp [htM, conv2, newEmp, convs_refl, convs, conv]) (by simp [htM, heapFit, newEmp, conv2s, conv2, convs_refl, convs, conv]) (by intro q hq; first | (simp at hq; done) | (simp at hq; omega) | (simp at hq; simp; omega))
    rw [mkS_eq]
    refine AW.fit (shutLast 5 300 301 (A.map Frame.ao) fn pc slots stack (ms ++ [⟨kind, target, slot, height, us, tk, tn, tt, ti, ts⟩]) (ms.map Mark.av ++ [.agg [.int .i64 kind, .int .i64 target, .int .i64 slot, .int .i64 height, .sl .fro (us.map Undo.av), .int .i64 tk, .int .i64 tn, .str tt, .sl .fro (avs ti), .sl .fro (ts.map .str)]]) ((ms.length + 1)) (by simp [rowH]) (by simp) (by simp) (by simp) (by simp [Mark.av, htM]) hA1 hA2 (by omega) (by omega) (by omega)) ?_
    refine AW.ret (retI (r := resN (A ++ [⟨fn, pc, slots, stack, ms ++ [⟨kind, target, slot, height, us, tk, tn, tt, ti, ts⟩]⟩], noneU, zeroV, false)) (by rw [hN] <;> rfl) ?_)
    simp [resN, noneU, zeroV, Undo.av, Val.av, Mark.th, avs, a17_res, htk, hupd, resOk, resP, resV, ARes.op, R2s, R2, R1s, R1, closeOk, closeV]
end Go.Proofs.Ytafkaofaioleiaa
