/- Contracts of chapter 13's functions, eighteenth part: the reference's Next. -/
import Derived.Test.YtafkaofaioleiaaS2

set_option linter.unusedSimpArgs false
set_option linter.unusedVariables false
set_option maxHeartbeats 16000000
namespace Go.Proofs.Ytafkaofaioleiaa
open Go Go.Amb Go.IntWalk

theorem nextF_not (ls : List Frame) (h : undoing ls = false) : nextF ls = (ls, noneU, zeroV, false) := by
  rcases snoc_cases ls with rfl | ⟨A, ⟨fn, pc, slots, stack, marks⟩, rfl⟩
  · rfl
  rcases snoc_cases marks with rfl | ⟨ms, m, rfl⟩
  · exact nextF_none _ _ rfl
  · rw [undoing_some _ _ _ _ rfl] at h
    exact nextF_other _ _ _ _ rfl (by simpa using h)
theorem undoing_split (ls : List Frame) (h : undoing ls = true) : ∃ A fn pc slots stack ms m, ls = A ++ [Frame.mk fn pc slots stack (ms ++ [m])] ∧ m.kind = 3 := by
  rcases snoc_cases ls with rfl | ⟨A, ⟨fn, pc, slots, stack, marks⟩, rfl⟩
  · simp [undoing] at h
  rcases snoc_cases marks with rfl | ⟨ms, m, rfl⟩
  · rw [undoing_none _ _ rfl] at h; simp at h
  · rw [undoing_some _ _ _ _ rfl] at h
    exact ⟨A, fn, pc, slots, stack, ms, m, rfl, by simpa using h⟩
theorem elem_undos (us : List Undo) (wf : Int) (wa : List Val) : elemAt (us.map Undo.av ++ [.agg [.int .i64 wf, .sl .fro (avs wa)]]) us.length = .agg [.int .i64 wf, .sl .fro (avs wa)] := by simp [elemAt]
theorem f18 (ls : List Frame) (hok : oks ls) (hb : ls.length ≤ 1000) : ACall Try.prog 18 [.sl .fro (ls.map Frame.av)] (· = resN (nextF ls)) := by
  have h39 := f39 ls (fun f hf => (hok f hf).1) (by omega)
  have h21 := f21 ls (by omega) (fun f hf => by have := (hok f hf).2; omega)
  refine a18_of (by simp) ?_
  repeat refine AW.seq ?_
  refine AW.reg ?_
  have hF := True.intro
  repeat (first | refine wD1 ?_ | refine wD2 ?_ | refine wE1 ?_ | refine wE2 ?_ | (refine wE3 ?_; intro _) | (refine wE4 ?_; intro _) | refine wN ?_ | ((with_reducible show evIs _ (_ :: _) _ _); first | refine wQ ?_ | refine wF ?_ | refine wG ?_ | refine wT ?_ | refine wM ?_ | refine wS ?_ | refine wP ?_ | refine wJ ?_ | refine wX ?_ | refine wY ?_))
  clear hF
  repeat refine evDone ?_
  try (show AW _ _ _ _ _)
  repeat refine AW.seq ?_
  refine AW.reg ?_
  have hF := True.intro
  repeat (first | refine wD1 ?_ | refine wD2 ?_ | refine wE1 ?_ | refine wE2 ?_ | (refine wE3 ?_; intro _) | (refine wE4 ?_; intro _) | refine wN ?_ | ((with_reducible show evIs _ (_ :: _) _ _); first | refine wQ ?_ | refine wF ?_ | refine wG ?_ | refine wT ?_ | refine wM ?_ | refine wS ?_ | refine wP ?_ | refine wJ ?_ | refine wX ?_ | refine wY ?_))
  clear hF
  repeat refine evDone ?_
  try (show AW _ _ _ _ _)
  have hF := True.intro
  refine wA (hA := h39) ?_
  clear hF
  have hF := True.intro
  repeat (first | refine wD1 ?_ | refine wD2 ?_ | refine wE1 ?_ | refine wE2 ?_ | (refine wE3 ?_; intro _) | (refine wE4 ?_; intro _) | refine wN ?_ | ((with_reducible show evIs _ (_ :: _) _ _); first | refine wQ ?_ | refine wF ?_ | refine wG ?_ | refine wT ?_ | refine wM ?_ | refine wS ?_ | refine wP ?_ | refine wJ ?_ | refine wX ?_ | refine wY ?_))
  clear hF
  repeat refine evDone ?_
  try (show AW _ _ _ _ _)
  repeat refine AW.seq ?_
  refine AW.reg ?_
  have hF := True.intro
  repeat (first | refine wD1 ?_ | refine wD2 ?_ | refine wE1 ?_ | refine wE2 ?_ | (refine wE3 ?_; intro _) | (refine wE4 ?_; intro _) | refine wN ?_ | ((with_reducible show evIs _ (_ :: _) _ _); first | refine wQ ?_ | refine wF ?_ | refine wG ?_ | refine wT ?_ | refine wM ?_ | refine wS ?_ | refine wP ?_ | refine wJ ?_ | refine wX ?_ | refine wY ?_))
  clear hF
  repeat refine evDone ?_
  try (show AW _ _ _ _ _)
  have hF := True.intro
  refine wC (hA := h21) ?_
  clear hF
  have hF := True.intro
  repeat (first | refine wD1 ?_ | refine wD2 ?_ | refine wE1 ?_ | refine wE2 ?_ | (refine wE3 ?_; intro _) | (refine wE4 ?_; intro _) | refine wN ?_ | ((with_reducible show evIs _ (_ :: _) _ _); first | refine wQ ?_ | refine wF ?_ | refine wG ?_ | refine wT ?_ | refine wM ?_ | refine wS ?_ | refine wP ?_ | refine wJ ?_ | refine wX ?_ | refine wY ?_))
  clear hF
  repeat refine evDone ?_
  try (show AW _ _ _ _ _)
  cases hu : undoing ls
  · rw [nextF_not ls hu]
    have ht : (ls.map Frame.ao).take ls.length = ls.map Frame.ao := List.take_of_length_le (by simp)
    repeat refine AW.seq ?_
    refine AW.condT (by simp []) (by simp []) ?_
    repeat refine AW.seq ?_
    refine AW.reg ?_
    have hF := True.intro
    repeat (first | refine wD1 ?_ | refine wD2 ?_ | refine wE1 ?_ | refine wE2 ?_ | (refine wE3 ?_; intro _) | (refine wE4 ?_; intro _) | refine wN ?_ | ((with_reducible show evIs _ (_ :: _) _ _); first | refine wQ ?_ | refine wF ?_ | refine wG ?_ | refine wT ?_ | refine wM ?_ | refine wS ?_ | refine wP ?_ | refine wJ ?_ | refine wX ?_ | refine wY ?_))
    clear hF
    repeat refine evDone ?_
    try (show AW _ _ _ _ _)
    have hF := True.intro
    refine wC (hA := f43) ?_
    clear hF
    have hF := True.intro
    repeat (first | refine wD1 ?_ | refine wD2 ?_ | refine wE1 ?_ | refine wE2 ?_ | (refine wE3 ?_; intro _) | (refine wE4 ?_; intro _) | refine wN ?_ | ((with_reducible show evIs _ (_ :: _) _ _); first | refine wQ ?_ | refine wF ?_ | refine wG ?_ | refine wT ?_ | refine wM ?_ | refine wS ?_ | refine wP ?_ | refine wJ ?_ | refine wX ?_ | refine wY ?_))
    clear hF
    repeat refine evDone ?_
    try (show AW _ _ _ _ _)
    refine AW.ret (retI (r := resN (ls, noneU, zeroV, false)) rfl ?_)
    simp [resN, noneU, zeroV, Undo.av, Val.av, Mark.th, avs, a18_res, ht, hupd, resOk, resP, resV, ARes.op, R2s, R2, R1s, R1, closeOk, closeV]
  obtain ⟨A, fn, pc, slots, stack, ms, ⟨kind, target, slot, height, us, tk, tn, tt, ti, ts⟩, rfl, hk3⟩ := undoing_split ls hu
  dsimp only at hk3
  subst hk3
  obtain ⟨N, hN⟩ : ∃ N, N = nextF (A ++ [Frame.mk fn pc slots stack (ms ++ [⟨3, target, slot, height, us, tk, tn, tt, ti, ts⟩])]) := ⟨_, rfl⟩
  rw [← hN]
  obtain ⟨hAok, hfok⟩ := oks_snoc.1 hok
  have hkA : A.length < 1000000 := by simp at hb; omega
  have hA1 := ao_len A
  have hA2 := ao_shut A
  have he := elem_snoc Frame.ao A
  have hset := set_snoc Frame.ao A
  have htk := take_snoc Frame.ao A
  have hml : ms.length < 1000000000000 := by have := hfok.2; simp at this; omega
  have hmo : Mark.ok ⟨3, target, slot, height, us, tk, tn, tt, ti, ts⟩ := hfok.1.2.2.2.2.2 _ (by simp)
  have hul : us.length < 10000000000000 := by have := hmo.1; dsimp only at this; omega
  have heM := elem_snoc Mark.av ms
  have hsetM := set_snoc Mark.av ms
  have htM := take_snoc Mark.av ms
  repeat refine AW.seq ?_
  refine AW.condF (by simp []) (by simp []) ?_
  refine AW.skip ?_
  show AW _ _ _ _ _
  simp only [List.map_append, List.map_cons, List.map_nil, List.length_append, List.length_cons, List.length_nil, Nat.zero_add]
  refine AW.fit (st' := mkS [(2, .sl .ext []), (3, .ptr 1 0 0), (4, .ptr 2 0 0), (5, .bool false), (6, .hdr 5 0 (A.length + 1))] [(5, ⟨5, false, A.map Frame.ao ++ [Frame.ao ⟨fn, pc, slots, stack, ms ++ [⟨3, target, slot, height, us, tk, tn, tt, ti, ts⟩]⟩]⟩), (1, ⟨2, true, [.agg [.int .i64 0, .sl .ext []]]⟩), (2, ⟨5, true, [.agg [.int .i64 0, .int .i64 0, .str ⟨#[]⟩, .sl .ext [], .sl .ext []]]⟩)] 100) ?_ ?_
  · refine Fit.mk _ _ _ (by simp [conv2, newEmp, convs_refl, convs, conv]) (by simp [heapFit, newEmp, conv2s, conv2, convs_refl, convs, conv]) (by intro q hq; first | (simp at hq; done) | (simp at hq; omega) | (simp at hq; simp; omega))
  rw [mkS_eq]
  refine AW.fit (openLast 5 300 301 (A.map Frame.ao) ⟨fn, pc, slots, stack, ms ++ [⟨3, target, slot, height, us, tk, tn, tt, ti, ts⟩]⟩ (by simp) hA1 (by simp) (by simp) (by omega)) ?_
  refine AW.fit (st' := mkS [(2, .sl .ext []), (3, .ptr 1 0 0), (4, .ptr 2 0 0), (5, .bool false), (6, .hdr 5 0 (A.length + 1))] [(5, ⟨5, true, A.map Frame.ao ++ [.agg [.int .i64 fn, .int .i64 pc, .hdr 300 0 slots.length, .sl .fro (avs stack), .hdr 301 0 (ms.length + 1)]]⟩), (300, ⟨5, false, avs slots⟩), (301, ⟨10, false, ms.map Mark.av ++ [.agg [.int .i64 3, .int .i64 target, .int .i64 slot, .int .i64 height, .sl .fro (us.map Undo.av), .int .i64 tk, .int .i64 tn, .str tt, .sl .fro (avs ti), .sl .fro (ts.map .str)]]⟩), (1, ⟨2, true, [.agg [.int .i64 0, .sl .ext []]]⟩), (2, ⟨5, true, [.agg [.int .i64 0, .int .i64 0, .str ⟨#[]⟩, .sl .ext [], .sl .ext []]]⟩)] 310) ?_ ?_
  · refine Fit.mk _ _ _ (by simp [hupd, uupd, rowH, Mark.av, conv2, newEmp, convs_refl, convs, conv]) (by simp [hupd, uupd, rowH, Mark.av, heapFit, newEmp, conv2s, conv2, convs_refl, convs, conv]) (by intro q hq; first | (simp at hq; done) | (simp at hq; omega) | (simp at hq; simp; omega))
  have hw : IntKind.i64.wrap (A.length : Int) = (A.length : Int) := i64_in _ ⟨by omega, by omega⟩
  have h2 : (0 : Int) ≤ A.length := by omega
  have h3 : (A.length : Int) < (A.length : Int) + 1 := by omega
  have hw' : IntKind.i64.wrap (ms.length : Int) = (ms.length : Int) := i64_in _ ⟨by omega, by omega⟩
  have h2' : (0 : Int) ≤ ms.length := by omega
  have h3' : (ms.length : Int) < (ms.length : Int) + 1 := by omega
  have h4' : ms.length < ms.length + 1 := by omega
  have h4 : A.length < A.length + 1 := by omega
  have h5' : (ms.length : Int) ≤ (ms.length : Int) + 1 := by omega
  have h6' : ms.length ≤ ms.length + 1 := by omega
  repeat refine AW.seq ?_
  refine AW.reg ?_
  have hF := And.intro (hw) (And.intro (h2) (h3))
  repeat (first | refine wD1 ?_ | refine wD2 ?_ | refine wE1 ?_ | refine wE2 ?_ | (refine wE3 ?_; intro _) | (refine wE4 ?_; intro _) | refine wN ?_ | ((with_reducible show evIs _ (_ :: _) _ _); first | refine wQ ?_ | refine wF ?_ | refine wG ?_ | refine wT ?_ | refine wM ?_ | refine wS ?_ | refine wP ?_ | refine wJ ?_ | refine wX ?_ | refine wY ?_))
  clear hF
  repeat refine evDone ?_
  try (show AW _ _ _ _ _)
  repeat refine AW.seq ?_
  refine AW.draw ?_
  have hF := And.intro (hw) (And.intro (h2) (And.intro (h3) (And.intro (he) (And.intro (hw') (And.intro (h2') (h3'))))))
  repeat (first | refine wD1 ?_ | refine wD2 ?_ | refine wE1 ?_ | refine wE2 ?_ | (refine wE3 ?_; intro _) | (refine wE4 ?_; intro _) | refine wN ?_ | ((with_reducible show evIs _ (_ :: _) _ _); first | refine wQ ?_ | refine wF ?_ | refine wG ?_ | refine wT ?_ | refine wM ?_ | refine wS ?_ | refine wP ?_ | refine wJ ?_ | refine wX ?_ | refine wY ?_))
  clear hF
  repeat refine evDone ?_
  try (show AW _ _ _ _ _)
  repeat refine AW.seq ?_
  refine AW.reg ?_
  have hF := heM
  repeat (first | refine wD1 ?_ | refine wD2 ?_ | refine wE1 ?_ | refine wE2 ?_ | (refine wE3 ?_; intro _) | (refine wE4 ?_; intro _) | refine wN ?_ | ((with_reducible show evIs _ (_ :: _) _ _); first | refine wQ ?_ | refine wF ?_ | refine wG ?_ | refine wT ?_ | refine wM ?_ | refine wS ?_ | refine wP ?_ | refine wJ ?_ | refine wX ?_ | refine wY ?_))
  clear hF
  repeat refine evDone ?_
  try (show AW _ _ _ _ _)
  rcases snoc_cases us with rfl | ⟨us, w, rfl⟩
  · rw [nextF_end A _ ms ⟨3, target, slot, height, [], tk, tn, tt, ti, ts⟩ rfl rfl rfl] at hN
    simp only [List.map_nil, List.length_nil]
    repeat refine AW.seq ?_
    refine AW.reg ?_
    have hF := True.intro
    repeat (first | refine wD1 ?_ | refine wD2 ?_ | refine wE1 ?_ | refine wE2 ?_ | (refine wE3 ?_; intro _) | (refine wE4 ?_; intro _) | refine wN ?_ | ((with_reducible show evIs _ (_ :: _) _ _); first | refine wQ ?_ | refine wF ?_ | refine wG ?_ | refine wT ?_ | refine wM ?_ | refine wS ?_ | refine wP ?_ | refine wJ ?_ | refine wX ?_ | refine wY ?_))
    clear hF
    repeat refine evDone ?_
    try (show AW _ _ _ _ _)
    repeat refine AW.seq ?_
    refine AW.condF (by simp []) (by simp []) ?_
    refine AW.skip ?_
    show AW _ _ _ _ _
    repeat refine AW.seq ?_
    refine AW.reg ?_
    have hF := heM
    repeat (first | refine wD1 ?_ | refine wD2 ?_ | refine wE1 ?_ | refine wE2 ?_ | (refine wE3 ?_; intro _) | (refine wE4 ?_; intro _) | refine wN ?_ | ((with_reducible show evIs _ (_ :: _) _ _); first | refine wQ ?_ | refine wF ?_ | refine wG ?_ | refine wT ?_ | refine wM ?_ | refine wS ?_ | refine wP ?_ | refine wJ ?_ | refine wX ?_ | refine wY ?_))
    clear hF
    repeat refine evDone ?_
    try (show AW _ _ _ _ _)
    repeat refine AW.seq ?_
    refine AW.draw ?_
    have hF := And.intro (he) (And.intro (hset) (And.intro (hw') (And.intro (h2') (And.intro (h3') (And.intro (h4') (And.intro (h4) (And.intro (h5') (h6'))))))))
    repeat (first | refine wD1 ?_ | refine wD2 ?_ | refine wE1 ?_ | refine wE2 ?_ | (refine wE3 ?_; intro _) | (refine wE4 ?_; intro _) | refine wN ?_ | ((with_reducible show evIs _ (_ :: _) _ _); first | refine wQ ?_ | refine wF ?_ | refine wG ?_ | refine wT ?_ | refine wM ?_ | refine wS ?_ | refine wP ?_ | refine wJ ?_ | refine wX ?_ | refine wY ?_))
    clear hF
    repeat refine evDone ?_
    try (show AW _ _ _ _ _)
    repeat refine AW.seq ?_
    refine AW.draw ?_
    have hF := True.intro
    repeat (first | refine wD1 ?_ | refine wD2 ?_ | refine wE1 ?_ | refine wE2 ?_ | (refine wE3 ?_; intro _) | (refine wE4 ?_; intro _) | refine wN ?_ | ((with_reducible show evIs _ (_ :: _) _ _); first | refine wQ ?_ | refine wF ?_ | refine wG ?_ | refine wT ?_ | refine wM ?_ | refine wS ?_ | refine wP ?_ | refine wJ ?_ | refine wX ?_ | refine wY ?_))
    clear hF
    repeat refine evDone ?_
    try (show AW _ _ _ _ _)
    have hF := True.intro
    refine wC (hA := f43) ?_
    clear hF
    have hF := True.intro
    repeat (first | refine wD1 ?_ | refine wD2 ?_ | refine wE1 ?_ | refine wE2 ?_ | (refine wE3 ?_; intro _) | (refine wE4 ?_; intro _) | refine wN ?_ | ((with_reducible show evIs _ (_ :: _) _ _); first | refine wQ ?_ | refine wF ?_ | refine wG ?_ | refine wT ?_ | refine wM ?_ | refine wS ?_ | refine wP ?_ | refine wJ ?_ | refine wX ?_ | refine wY ?_))
    clear hF
    repeat refine evDone ?_
    try (show AW _ _ _ _ _)
    refine AW.fit (st' := mkS [(2, .hdr 5 0 (A.length + 1)), (3, .ptr 1 0 0), (4, .ptr 2 0 0), (5, .bool true)] [(5, ⟨5, true, A.map Frame.ao ++ [.agg [.int .i64 fn, .int .i64 pc, .hdr 300 0 slots.length, .sl .fro (avs stack), .hdr 301 0 ms.length]]⟩), (300, ⟨5, false, avs slots⟩), (301, ⟨10, false, ms.map Mark.av ++ [.agg [.int .i64 3, .int .i64 target, .int .i64 slot, .int .i64 height, .sl .fro ([]), .int .i64 tk, .int .i64 tn, .str tt, .sl .fro (avs ti), .sl .fro (ts.map .str)]]⟩), (1, ⟨2, true, [.agg [.int .i64 (-1), .sl .fro []]]⟩), (2, ⟨5, true, [.agg [.int .i64 tk, .int .i64 tn, .str tt, .sl .fro (avs ti), .sl .fro (ts.map .str)]]⟩)] 900) ?_ ?_
    · refine Fit.mk _ _ _ (by simp [conv2, newEmp, convs_refl, convs, conv]) (by simp [heapFit, newEmp, conv2s, conv2, convs_refl, convs, conv]) (by intro q hq; first | (simp at hq; done) | (simp at hq; omega) | (simp at hq; simp; omega))
    rw [mkS_eq]
    refine AW.fit (shutLast 5 300 301 (A.map Frame.ao) fn pc slots stack (ms) (ms.map Mark.av ++ [.agg [.int .i64 3, .int .i64 target, .int .i64 slot, .int .i64 height, .sl .fro ([]), .int .i64 tk, .int .i64 tn, .str tt, .sl .fro (avs ti), .sl .fro (ts.map .str)]]) (ms.length) (by simp [rowH]) (by simp) (by simp) (by simp) (by simp [Mark.av]) hA1 hA2 (by omega) (by omega) (by omega)) ?_
    refine AW.ret (retI (r := resN (A ++ [⟨fn, pc, slots, stack, ms⟩], noneU, Val.mk tk tn tt ti ts, true)) (by rw [hN] <;> rfl) ?_)
    simp [resN, noneU, zeroV, Undo.av, Val.av, Mark.th, avs, a18_res, htk, hupd, resOk, resP, resV, ARes.op, R2s, R2, R1s, R1, closeOk, closeV]
  · rw [nextF_undo A _ ms ⟨3, target, slot, height, us ++ [w], tk, tn, tt, ti, ts⟩ us w rfl rfl rfl] at hN
    obtain ⟨wf, wa⟩ := w
    have hul2 : us.length < 10000000000000 := by simp at hul; omega
    have hpo : (0 : Int) < (us.length : Int) + 1 := by omega
    have hwu : IntKind.i64.wrap (us.length : Int) = (us.length : Int) := i64_in _ ⟨by omega, by omega⟩
    have hu2 : (0 : Int) ≤ us.length := by omega
    have hu3 : (us.length : Int) < (us.length : Int) + 1 := by omega
    have hu5 : (us.length : Int) ≤ (us.length : Int) + 1 := by omega
    have hu6 : us.length ≤ us.length + 1 := by omega
    obtain ⟨X, hX⟩ : ∃ X, X = us.map Undo.av ++ [.agg [.int .i64 wf, .sl .fro (avs wa)]] := ⟨_, rfl⟩
    have heU : elemAt X us.length = .agg [.int .i64 wf, .sl .fro (avs wa)] := by rw [hX]; exact elem_undos us wf wa
    have hlU : X.length = us.length + 1 := by rw [hX]; simp
    have htU : X.take us.length = us.map Undo.av := by rw [hX]; simp
    have hcU : ∀ v ∈ X, (cellsOf v).length = 2 := by
      rw [hX]
      intro v hv
      simp only [List.mem_append, List.mem_map, List.mem_singleton] at hv
      rcases hv with ⟨u, _, rfl⟩ | rfl <;> simp
    simp only [List.map_append, List.map_cons, List.map_nil, Undo.av, List.length_append, List.length_cons, List.length_nil, Nat.zero_add]
    rw [← hX]
    clear hX
    repeat refine AW.seq ?_
    refine AW.reg ?_
    have hF := And.intro (hpo) (hlU)
    repeat (first | refine wD1 ?_ | refine wD2 ?_ | refine wE1 ?_ | refine wE2 ?_ | (refine wE3 ?_; intro _) | (refine wE4 ?_; intro _) | refine wN ?_ | ((with_reducible show evIs _ (_ :: _) _ _); first | refine wQ ?_ | refine wF ?_ | refine wG ?_ | refine wT ?_ | refine wM ?_ | refine wS ?_ | refine wP ?_ | refine wJ ?_ | refine wX ?_ | refine wY ?_))
    clear hF
    repeat refine evDone ?_
    try (show AW _ _ _ _ _)
    repeat refine AW.seq ?_
    refine AW.condT (by simp [hpo]) (by simp [hpo]) ?_
    repeat refine AW.seq ?_
    refine AW.reg ?_
    have hF := And.intro (heM) (And.intro (hwu) (And.intro (hu2) (And.intro (hu3) (And.intro (heU) (hlU)))))
    repeat (first | refine wD1 ?_ | refine wD2 ?_ | refine wE1 ?_ | refine wE2 ?_ | (refine wE3 ?_; intro _) | (refine wE4 ?_; intro _) | refine wN ?_ | ((with_reducible show evIs _ (_ :: _) _ _); first | refine wQ ?_ | refine wF ?_ | refine wG ?_ | refine wT ?_ | refine wM ?_ | refine wS ?_ | refine wP ?_ | refine wJ ?_ | refine wX ?_ | refine wY ?_))
    clear hF
    repeat refine evDone ?_
    try (show AW _ _ _ _ _)
    repeat refine AW.seq ?_
    refine AW.reg ?_
    have hF := And.intro (heM) (And.intro (hwu) (And.intro (hu2) (And.intro (hu5) (And.intro (hu6) (And.intro (hsetM) (And.intro (hlU) (And.intro (htU) (eq_true hcU))))))))
    repeat (first | refine wD1 ?_ | refine wD2 ?_ | refine wE1 ?_ | refine wE2 ?_ | (refine wE3 ?_; intro _) | (refine wE4 ?_; intro _) | refine wN ?_ | ((with_reducible show evIs _ (_ :: _) _ _); first | refine wQ ?_ | refine wF ?_ | refine wG ?_ | refine wT ?_ | refine wM ?_ | refine wS ?_ | refine wP ?_ | refine wJ ?_ | refine wX ?_ | refine wY ?_))
    clear hF
    repeat refine evDone ?_
    try (show AW _ _ _ _ _)
    repeat refine AW.seq ?_
    refine AW.draw ?_
    have hF := True.intro
    repeat (first | refine wD1 ?_ | refine wD2 ?_ | refine wE1 ?_ | refine wE2 ?_ | (refine wE3 ?_; intro _) | (refine wE4 ?_; intro _) | refine wN ?_ | ((with_reducible show evIs _ (_ :: _) _ _); first | refine wQ ?_ | refine wF ?_ | refine wG ?_ | refine wT ?_ | refine wM ?_ | refine wS ?_ | refine wP ?_ | refine wJ ?_ | refine wX ?_ | refine wY ?_))
    clear hF
    repeat refine evDone ?_
    try (show AW _ _ _ _ _)
    refine AW.fit (st' := mkS [(2, .hdr 5 0 (A.length + 1)), (3, .ptr 1 0 0), (4, .ptr 2 0 0), (5, .bool false)] [(5, ⟨5, true, A.map Frame.ao ++ [.agg [.int .i64 fn, .int .i64 pc, .hdr 300 0 slots.length, .sl .fro (avs stack), .hdr 301 0 (ms.length + 1)]]⟩), (300, ⟨5, false, avs slots⟩), (301, ⟨10, false, ms.map Mark.av ++ [.agg [.int .i64 3, .int .i64 target, .int .i64 slot, .int .i64 height, .sl .fro (us.map Undo.av), .int .i64 tk, .int .i64 tn, .str tt, .sl .fro (avs ti), .sl .fro (ts.map .str)]]⟩), (1, ⟨2, true, [.agg [.int .i64 wf, .sl .fro (avs wa)]]⟩), (2, ⟨5, true, [.agg [.int .i64 0, .int .i64 0, .str ⟨#[]⟩, .sl .fro [], .sl .fro []]]⟩)] 900) ?_ ?_
    · refine Fit.mk _ _ _ (by simp [htM, conv2, newEmp, convs_refl, convs, conv]) (by simp [htM, heapFit, newEmp, conv2s, conv2, convs_refl, convs, conv]) (by intro q hq; first | (simp at hq; done) | (simp at hq; omega) | (simp at hq; simp; omega))
    rw [mkS_eq]
    refine AW.fit (shutLast 5 300 301 (A.map Frame.ao) fn pc slots stack (ms ++ [⟨3, target, slot, height, us, tk, tn, tt, ti, ts⟩]) (ms.map Mark.av ++ [.agg [.int .i64 3, .int .i64 target, .int .i64 slot, .int .i64 height, .sl .fro (us.map Undo.av), .int .i64 tk, .int .i64 tn, .str tt, .sl .fro (avs ti), .sl .fro (ts.map .str)]]) ((ms.length + 1)) (by simp [rowH]) (by simp) (by simp) (by simp) (by simp [Mark.av, htM]) hA1 hA2 (by omega) (by omega) (by omega)) ?_
    refine AW.ret (retI (r := resN (A ++ [⟨fn, pc, slots, stack, ms ++ [⟨3, target, slot, height, us, tk, tn, tt, ti, ts⟩]⟩], ⟨wf, wa⟩, zeroV, false)) (by rw [hN] <;> rfl) ?_)
    simp [resN, noneU, zeroV, Undo.av, Val.av, Mark.th, avs, a18_res, htk, hupd, resOk, resP, resV, ARes.op, R2s, R2, R1s, R1, closeOk, closeV]
end Go.Proofs.Ytafkaofaioleiaa

set_option linter.unusedSimpArgs false
set_option linter.unusedVariables false
set_option maxHeartbeats 16000000
namespace Go.Proofs.Ytafkaofaioleiaa
open Go Go.Amb Go.IntWalk

def NextPost (N : Nat) (p : List Frame × Undo × Val × Bool) : List (Nat × Blk) → Nat → AV → Prop := fun H1 n' r =>
  H1 = [(N + 5, ⟨5, false, p.1.map Frame.ao⟩)] ∧ n' = N + 1000 ∧ r = .tup [.hdr (N + 5) 0 p.1.length, p.2.1.av, p.2.2.1.av, .bool p.2.2.2]
theorem f18b (N : Nat) (ls : List Frame) (hok : oks ls) (hb : ls.length ≤ 1000) : BCall Try.prog 18 [] N [.sl .fro (ls.map Frame.av)] (NextPost N (nextF ls)) := by
  have hnl : ∀ k, (N + k < N) = False := fun k => eq_false (by omega)
  have h39 := f39 ls (fun f hf => (hok f hf).1) (by omega)
  have h21 := f21 ls (by omega) (fun f hf => by have := (hok f hf).2; omega)
  refine bcall_coded a18_ok (by simp) ?_
  repeat refine AW.seq ?_
  refine AW.reg ?_
  have hF := hnl
  repeat (first | refine wD1 ?_ | refine wD2 ?_ | refine wE1 ?_ | refine wE2 ?_ | (refine wE3 ?_; intro _) | (refine wE4 ?_; intro _) | refine wN ?_ | ((with_reducible show evIs _ (_ :: _) _ _); first | refine wQ ?_ | refine wF ?_ | refine wG ?_ | refine wT ?_ | refine wM ?_ | refine wS ?_ | refine wP ?_ | refine wJ ?_ | refine wX ?_ | refine wY ?_))
  clear hF
  repeat refine evDone ?_
  try (show AW _ _ _ _ _)
  repeat refine AW.seq ?_
  refine AW.reg ?_
  have hF := hnl
  repeat (first | refine wD1 ?_ | refine wD2 ?_ | refine wE1 ?_ | refine wE2 ?_ | (refine wE3 ?_; intro _) | (refine wE4 ?_; intro _) | refine wN ?_ | ((with_reducible show evIs _ (_ :: _) _ _); first | refine wQ ?_ | refine wF ?_ | refine wG ?_ | refine wT ?_ | refine wM ?_ | refine wS ?_ | refine wP ?_ | refine wJ ?_ | refine wX ?_ | refine wY ?_))
  clear hF
  repeat refine evDone ?_
  try (show AW _ _ _ _ _)
  have hF := hnl
  refine wA (hA := h39) ?_
  clear hF
  have hF := hnl
  repeat (first | refine wD1 ?_ | refine wD2 ?_ | refine wE1 ?_ | refine wE2 ?_ | (refine wE3 ?_; intro _) | (refine wE4 ?_; intro _) | refine wN ?_ | ((with_reducible show evIs _ (_ :: _) _ _); first | refine wQ ?_ | refine wF ?_ | refine wG ?_ | refine wT ?_ | refine wM ?_ | refine wS ?_ | refine wP ?_ | refine wJ ?_ | refine wX ?_ | refine wY ?_))
  clear hF
  repeat refine evDone ?_
  try (show AW _ _ _ _ _)
  repeat refine AW.seq ?_
  refine AW.reg ?_
  have hF := hnl
  repeat (first | refine wD1 ?_ | refine wD2 ?_ | refine wE1 ?_ | refine wE2 ?_ | (refine wE3 ?_; intro _) | (refine wE4 ?_; intro _) | refine wN ?_ | ((with_reducible show evIs _ (_ :: _) _ _); first | refine wQ ?_ | refine wF ?_ | refine wG ?_ | refine wT ?_ | refine wM ?_ | refine wS ?_ | refine wP ?_ | refine wJ ?_ | refine wX ?_ | refine wY ?_))
  clear hF
  repeat refine evDone ?_
  try (show AW _ _ _ _ _)
  have hF := hnl
  refine wC (hA := h21) ?_
  clear hF
  have hF := hnl
  repeat (first | refine wD1 ?_ | refine wD2 ?_ | refine wE1 ?_ | refine wE2 ?_ | (refine wE3 ?_; intro _) | (refine wE4 ?_; intro _) | refine wN ?_ | ((with_reducible show evIs _ (_ :: _) _ _); first | refine wQ ?_ | refine wF ?_ | refine wG ?_ | refine wT ?_ | refine wM ?_ | refine wS ?_ | refine wP ?_ | refine wJ ?_ | refine wX ?_ | refine wY ?_))
  clear hF
  repeat refine evDone ?_
  try (show AW _ _ _ _ _)
  cases hu : undoing ls
  · rw [nextF_not ls hu]
    have ht : (ls.map Frame.ao).take ls.length = ls.map Frame.ao := List.take_of_length_le (by simp)
    repeat refine AW.seq ?_
    refine AW.condT (by simp []) (by simp []) ?_
    repeat refine AW.seq ?_
    refine AW.reg ?_
    have hF := hnl
    repeat (first | refine wD1 ?_ | refine wD2 ?_ | refine wE1 ?_ | refine wE2 ?_ | (refine wE3 ?_; intro _) | (refine wE4 ?_; intro _) | refine wN ?_ | ((with_reducible show evIs _ (_ :: _) _ _); first | refine wQ ?_ | refine wF ?_ | refine wG ?_ | refine wT ?_ | refine wM ?_ | refine wS ?_ | refine wP ?_ | refine wJ ?_ | refine wX ?_ | refine wY ?_))
    clear hF
    repeat refine evDone ?_
    try (show AW _ _ _ _ _)
    have hF := hnl
    refine wC (hA := f43) ?_
    clear hF
    have hF := hnl
    repeat (first | refine wD1 ?_ | refine wD2 ?_ | refine wE1 ?_ | refine wE2 ?_ | (refine wE3 ?_; intro _) | (refine wE4 ?_; intro _) | refine wN ?_ | ((with_reducible show evIs _ (_ :: _) _ _); first | refine wQ ?_ | refine wF ?_ | refine wG ?_ | refine wT ?_ | refine wM ?_ | refine wS ?_ | refine wP ?_ | refine wJ ?_ | refine wX ?_ | refine wY ?_))
    clear hF
    repeat refine evDone ?_
    try (show AW _ _ _ _ _)
    refine AW.ret ⟨by simp [resP, a18_res, ARes.op, hupd, hnl], [(N + 5, ⟨5, false, (ls : List Frame).map Frame.ao⟩)], N + 1000, [.hdr (N + 5) 0 (ls : List Frame).length, .agg [.int .i64 (-1), .sl .fro []], .agg [.int .i64 0, .int .i64 0, .str ⟨#[]⟩, .sl .fro [], .sl .fro []], .bool false], ⟨rfl, rfl, rfl⟩, by omega, by simp, rfl, by simp, ?_⟩
    simp only [resV, a18_res, List.map_cons, List.map_nil, List.map_append, List.length_append, List.length_cons, List.length_nil, Nat.zero_add, ARes.op]
    refine Fit.mk _ _ _ (by simp [hupd, hnl, conv2, newEmp, convs_refl, convs, conv]) (by simp [hupd, hnl, heapFit, newEmp, conv2s, conv2, convs_refl, convs, conv]) (by intro q hq; first | (simp at hq; done) | (simp at hq; omega) | (simp at hq; simp; omega))
  obtain ⟨A, fn, pc, slots, stack, ms, ⟨kind, target, slot, height, us, tk, tn, tt, ti, ts⟩, rfl, hk3⟩ := undoing_split ls hu
  dsimp only at hk3
  subst hk3
  obtain ⟨NX, hN⟩ : ∃ NX, NX = nextF (A ++ [Frame.mk fn pc slots stack (ms ++ [⟨3, target, slot, height, us, tk, tn, tt, ti, ts⟩])]) := ⟨_, rfl⟩
  rw [← hN]
  obtain ⟨hAok, hfok⟩ := oks_snoc.1 hok
  have hkA : A.length < 1000000 := by simp at hb; omega
  have hA1 := ao_len A
  have hA2 := ao_shut A
  have he := elem_snoc Frame.ao A
  have hset := set_snoc Frame.ao A
  have htk := take_snoc Frame.ao A
  have hml : ms.length < 1000000000000 := by have := hfok.2; simp at this; omega
  have hmo : Mark.ok ⟨3, target, slot, height, us, tk, tn, tt, ti, ts⟩ := hfok.1.2.2.2.2.2 _ (by simp)
  have hul : us.length < 10000000000000 := by have := hmo.1; dsimp only at this; omega
  have heM := elem_snoc Mark.av ms
  have hsetM := set_snoc Mark.av ms
  have htM := take_snoc Mark.av ms
  repeat refine AW.seq ?_
  refine AW.condF (by simp []) (by simp []) ?_
  refine AW.skip ?_
  show AW _ _ _ _ _
  simp only [List.map_append, List.map_cons, List.map_nil, List.length_append, List.length_cons, List.length_nil, Nat.zero_add]
  refine AW.fit (st' := mkS [(2, .sl .ext []), (3, .ptr (N + 1) 0 0), (4, .ptr (N + 2) 0 0), (5, .bool false), (6, .hdr (N + 5) 0 (A.length + 1))] [(N + 5, ⟨5, false, A.map Frame.ao ++ [Frame.ao ⟨fn, pc, slots, stack, ms ++ [⟨3, target, slot, height, us, tk, tn, tt, ti, ts⟩]⟩]⟩), (N + 1, ⟨2, true, [.agg [.int .i64 0, .sl .ext []]]⟩), (N + 2, ⟨5, true, [.agg [.int .i64 0, .int .i64 0, .str ⟨#[]⟩, .sl .ext [], .sl .ext []]]⟩)] (N + 100)) ?_ ?_
  · refine Fit.mk _ _ _ (by simp [hnl, conv2, newEmp, convs_refl, convs, conv]) (by simp [hnl, heapFit, newEmp, conv2s, conv2, convs_refl, convs, conv]) (by intro q hq; first | (simp at hq; done) | (simp at hq; omega) | (simp at hq; simp; omega))
  rw [mkS_eq]
  refine AW.fit (openLast (N + 5) (N + 300) (N + 301) (A.map Frame.ao) ⟨fn, pc, slots, stack, ms ++ [⟨3, target, slot, height, us, tk, tn, tt, ti, ts⟩]⟩ (by simp) hA1 (by simp) (by simp) (by omega)) ?_
  refine AW.fit (st' := mkS [(2, .sl .ext []), (3, .ptr (N + 1) 0 0), (4, .ptr (N + 2) 0 0), (5, .bool false), (6, .hdr (N + 5) 0 (A.length + 1))] [(N + 5, ⟨5, true, A.map Frame.ao ++ [.agg [.int .i64 fn, .int .i64 pc, .hdr (N + 300) 0 slots.length, .sl .fro (avs stack), .hdr (N + 301) 0 (ms.length + 1)]]⟩), (N + 300, ⟨5, false, avs slots⟩), (N + 301, ⟨10, false, ms.map Mark.av ++ [.agg [.int .i64 3, .int .i64 target, .int .i64 slot, .int .i64 height, .sl .fro (us.map Undo.av), .int .i64 tk, .int .i64 tn, .str tt, .sl .fro (avs ti), .sl .fro (ts.map .str)]]⟩), (N + 1, ⟨2, true, [.agg [.int .i64 0, .sl .ext []]]⟩), (N + 2, ⟨5, true, [.agg [.int .i64 0, .int .i64 0, .str ⟨#[]⟩, .sl .ext [], .sl .ext []]]⟩)] (N + 310)) ?_ ?_
  · refine Fit.mk _ _ _ (by simp [hupd, uupd, rowH, Mark.av, hnl, conv2, newEmp, convs_refl, convs, conv]) (by simp [hupd, uupd, rowH, Mark.av, hnl, heapFit, newEmp, conv2s, conv2, convs_refl, convs, conv]) (by intro q hq; first | (simp at hq; done) | (simp at hq; omega) | (simp at hq; simp; omega))
  have hw : IntKind.i64.wrap (A.length : Int) = (A.length : Int) := i64_in _ ⟨by omega, by omega⟩
  have h2 : (0 : Int) ≤ A.length := by omega
  have h3 : (A.length : Int) < (A.length : Int) + 1 := by omega
  have hw' : IntKind.i64.wrap (ms.length : Int) = (ms.length : Int) := i64_in _ ⟨by omega, by omega⟩
  have h2' : (0 : Int) ≤ ms.length := by omega
  have h3' : (ms.length : Int) < (ms.length : Int) + 1 := by omega
  have h4' : ms.length < ms.length + 1 := by omega
  have h4 : A.length < A.length + 1 := by omega
  have h5' : (ms.length : Int) ≤ (ms.length : Int) + 1 := by omega
  have h6' : ms.length ≤ ms.length + 1 := by omega
  repeat refine AW.seq ?_
  refine AW.reg ?_
  have hF := And.intro (hw) (And.intro (h2) (And.intro (h3) (hnl)))
  repeat (first | refine wD1 ?_ | refine wD2 ?_ | refine wE1 ?_ | refine wE2 ?_ | (refine wE3 ?_; intro _) | (refine wE4 ?_; intro _) | refine wN ?_ | ((with_reducible show evIs _ (_ :: _) _ _); first | refine wQ ?_ | refine wF ?_ | refine wG ?_ | refine wT ?_ | refine wM ?_ | refine wS ?_ | refine wP ?_ | refine wJ ?_ | refine wX ?_ | refine wY ?_))
  clear hF
  repeat refine evDone ?_
  try (show AW _ _ _ _ _)
  repeat refine AW.seq ?_
  refine AW.draw ?_
  have hF := And.intro (hw) (And.intro (h2) (And.intro (h3) (And.intro (he) (And.intro (hw') (And.intro (h2') (And.intro (h3') (hnl)))))))
  repeat (first | refine wD1 ?_ | refine wD2 ?_ | refine wE1 ?_ | refine wE2 ?_ | (refine wE3 ?_; intro _) | (refine wE4 ?_; intro _) | refine wN ?_ | ((with_reducible show evIs _ (_ :: _) _ _); first | refine wQ ?_ | refine wF ?_ | refine wG ?_ | refine wT ?_ | refine wM ?_ | refine wS ?_ | refine wP ?_ | refine wJ ?_ | refine wX ?_ | refine wY ?_))
  clear hF
  repeat refine evDone ?_
  try (show AW _ _ _ _ _)
  repeat refine AW.seq ?_
  refine AW.reg ?_
  have hF := And.intro (heM) (hnl)
  repeat (first | refine wD1 ?_ | refine wD2 ?_ | refine wE1 ?_ | refine wE2 ?_ | (refine wE3 ?_; intro _) | (refine wE4 ?_; intro _) | refine wN ?_ | ((with_reducible show evIs _ (_ :: _) _ _); first | refine wQ ?_ | refine wF ?_ | refine wG ?_ | refine wT ?_ | refine wM ?_ | refine wS ?_ | refine wP ?_ | refine wJ ?_ | refine wX ?_ | refine wY ?_))
  clear hF
  repeat refine evDone ?_
  try (show AW _ _ _ _ _)
  rcases snoc_cases us with rfl | ⟨us, w, rfl⟩
  · rw [nextF_end A _ ms ⟨3, target, slot, height, [], tk, tn, tt, ti, ts⟩ rfl rfl rfl] at hN
    simp only [List.map_nil, List.length_nil]
    repeat refine AW.seq ?_
    refine AW.reg ?_
    have hF := hnl
    repeat (first | refine wD1 ?_ | refine wD2 ?_ | refine wE1 ?_ | refine wE2 ?_ | (refine wE3 ?_; intro _) | (refine wE4 ?_; intro _) | refine wN ?_ | ((with_reducible show evIs _ (_ :: _) _ _); first | refine wQ ?_ | refine wF ?_ | refine wG ?_ | refine wT ?_ | refine wM ?_ | refine wS ?_ | refine wP ?_ | refine wJ ?_ | refine wX ?_ | refine wY ?_))
    clear hF
    repeat refine evDone ?_
    try (show AW _ _ _ _ _)
    repeat refine AW.seq ?_
    refine AW.condF (by simp []) (by simp []) ?_
    refine AW.skip ?_
    show AW _ _ _ _ _
    repeat refine AW.seq ?_
    refine AW.reg ?_
    have hF := And.intro (heM) (hnl)
    repeat (first | refine wD1 ?_ | refine wD2 ?_ | refine wE1 ?_ | refine wE2 ?_ | (refine wE3 ?_; intro _) | (refine wE4 ?_; intro _) | refine wN ?_ | ((with_reducible show evIs _ (_ :: _) _ _); first | refine wQ ?_ | refine wF ?_ | refine wG ?_ | refine wT ?_ | refine wM ?_ | refine wS ?_ | refine wP ?_ | refine wJ ?_ | refine wX ?_ | refine wY ?_))
    clear hF
    repeat refine evDone ?_
    try (show AW _ _ _ _ _)
    repeat refine AW.seq ?_
    refine AW.draw ?_
    have hF := And.intro (he) (And.intro (hset) (And.intro (hw') (And.intro (h2') (And.intro (h3') (And.intro (h4') (And.intro (h4) (And.intro (h5') (And.intro (h6') (hnl)))))))))
    repeat (first | refine wD1 ?_ | refine wD2 ?_ | refine wE1 ?_ | refine wE2 ?_ | (refine wE3 ?_; intro _) | (refine wE4 ?_; intro _) | refine wN ?_ | ((with_reducible show evIs _ (_ :: _) _ _); first | refine wQ ?_ | refine wF ?_ | refine wG ?_ | refine wT ?_ | refine wM ?_ | refine wS ?_ | refine wP ?_ | refine wJ ?_ | refine wX ?_ | refine wY ?_))
    clear hF
    repeat refine evDone ?_
    try (show AW _ _ _ _ _)
    repeat refine AW.seq ?_
    refine AW.draw ?_
    have hF := hnl
    repeat (first | refine wD1 ?_ | refine wD2 ?_ | refine wE1 ?_ | refine wE2 ?_ | (refine wE3 ?_; intro _) | (refine wE4 ?_; intro _) | refine wN ?_ | ((with_reducible show evIs _ (_ :: _) _ _); first | refine wQ ?_ | refine wF ?_ | refine wG ?_ | refine wT ?_ | refine wM ?_ | refine wS ?_ | refine wP ?_ | refine wJ ?_ | refine wX ?_ | refine wY ?_))
    clear hF
    repeat refine evDone ?_
    try (show AW _ _ _ _ _)
    have hF := hnl
    refine wC (hA := f43) ?_
    clear hF
    have hF := hnl
    repeat (first | refine wD1 ?_ | refine wD2 ?_ | refine wE1 ?_ | refine wE2 ?_ | (refine wE3 ?_; intro _) | (refine wE4 ?_; intro _) | refine wN ?_ | ((with_reducible show evIs _ (_ :: _) _ _); first | refine wQ ?_ | refine wF ?_ | refine wG ?_ | refine wT ?_ | refine wM ?_ | refine wS ?_ | refine wP ?_ | refine wJ ?_ | refine wX ?_ | refine wY ?_))
    clear hF
    repeat refine evDone ?_
    try (show AW _ _ _ _ _)
    refine AW.fit (st' := mkS [(2, .hdr (N + 5) 0 (A.length + 1)), (3, .ptr (N + 1) 0 0), (4, .ptr (N + 2) 0 0), (5, .bool true)] [(N + 5, ⟨5, true, A.map Frame.ao ++ [.agg [.int .i64 fn, .int .i64 pc, .hdr (N + 300) 0 slots.length, .sl .fro (avs stack), .hdr (N + 301) 0 ms.length]]⟩), (N + 300, ⟨5, false, avs slots⟩), (N + 301, ⟨10, false, ms.map Mark.av ++ [.agg [.int .i64 3, .int .i64 target, .int .i64 slot, .int .i64 height, .sl .fro ([]), .int .i64 tk, .int .i64 tn, .str tt, .sl .fro (avs ti), .sl .fro (ts.map .str)]]⟩), (N + 1, ⟨2, true, [.agg [.int .i64 (-1), .sl .fro []]]⟩), (N + 2, ⟨5, true, [.agg [.int .i64 tk, .int .i64 tn, .str tt, .sl .fro (avs ti), .sl .fro (ts.map .str)]]⟩)] (N + 900)) ?_ ?_
    · refine Fit.mk _ _ _ (by simp [hnl, conv2, newEmp, convs_refl, convs, conv]) (by simp [hnl, heapFit, newEmp, conv2s, conv2, convs_refl, convs, conv]) (by intro q hq; first | (simp at hq; done) | (simp at hq; omega) | (simp at hq; simp; omega))
    rw [mkS_eq]
    refine AW.fit (shutLast (N + 5) (N + 300) (N + 301) (A.map Frame.ao) fn pc slots stack (ms) (ms.map Mark.av ++ [.agg [.int .i64 3, .int .i64 target, .int .i64 slot, .int .i64 height, .sl .fro ([]), .int .i64 tk, .int .i64 tn, .str tt, .sl .fro (avs ti), .sl .fro (ts.map .str)]]) (ms.length) (by simp [rowH]) (by simp) (by simp) (by simp) (by simp [Mark.av]) hA1 hA2 (by omega) (by omega) (by omega)) ?_
    subst hN
    refine AW.ret ⟨by simp [resP, a18_res, ARes.op, hupd, hnl], [(N + 5, ⟨5, false, (A ++ [⟨fn, pc, slots, stack, ms⟩] : List Frame).map Frame.ao⟩)], N + 1000, [.hdr (N + 5) 0 (A ++ [⟨fn, pc, slots, stack, ms⟩] : List Frame).length, .agg [.int .i64 (-1), .sl .fro []], .agg [.int .i64 tk, .int .i64 tn, .str tt, .sl .fro (avs ti), .sl .fro (ts.map .str)], .bool true], ⟨rfl, rfl, rfl⟩, by omega, by simp, rfl, by simp, ?_⟩
    simp only [resV, a18_res, List.map_cons, List.map_nil, List.map_append, List.length_append, List.length_cons, List.length_nil, Nat.zero_add, ARes.op]
    refine Fit.mk _ _ _ (by simp [hupd, hnl, conv2, newEmp, convs_refl, convs, conv]) (by simp [hupd, hnl, heapFit, newEmp, conv2s, conv2, convs_refl, convs, conv]) (by intro q hq; first | (simp at hq; done) | (simp at hq; omega) | (simp at hq; simp; omega))
  · rw [nextF_undo A _ ms ⟨3, target, slot, height, us ++ [w], tk, tn, tt, ti, ts⟩ us w rfl rfl rfl] at hN
    obtain ⟨wf, wa⟩ := w
    have hul2 : us.length < 10000000000000 := by simp at hul; omega
    have hpo : (0 : Int) < (us.length : Int) + 1 := by omega
    have hwu : IntKind.i64.wrap (us.length : Int) = (us.length : Int) := i64_in _ ⟨by omega, by omega⟩
    have hu2 : (0 : Int) ≤ us.length := by omega
    have hu3 : (us.length : Int) < (us.length : Int) + 1 := by omega
    have hu5 : (us.length : Int) ≤ (us.length : Int) + 1 := by omega
    have hu6 : us.length ≤ us.length + 1 := by omega
    obtain ⟨X, hX⟩ : ∃ X, X = us.map Undo.av ++ [.agg [.int .i64 wf, .sl .fro (avs wa)]] := ⟨_, rfl⟩
    have heU : elemAt X us.length = .agg [.int .i64 wf, .sl .fro (avs wa)] := by rw [hX]; exact elem_undos us wf wa
    have hlU : X.length = us.length + 1 := by rw [hX]; simp
    have htU : X.take us.length = us.map Undo.av := by rw [hX]; simp
    have hcU : ∀ v ∈ X, (cellsOf v).length = 2 := by
      rw [hX]
      intro v hv
      simp only [List.mem_append, List.mem_map, List.mem_singleton] at hv
      rcases hv with ⟨u, _, rfl⟩ | rfl <;> simp
    simp only [List.map_append, List.map_cons, List.map_nil, Undo.av, List.length_append, List.length_cons, List.length_nil, Nat.zero_add]
    rw [← hX]
    clear hX
    repeat refine AW.seq ?_
    refine AW.reg ?_
    have hF := And.intro (hpo) (And.intro (hlU) (hnl))
    repeat (first | refine wD1 ?_ | refine wD2 ?_ | refine wE1 ?_ | refine wE2 ?_ | (refine wE3 ?_; intro _) | (refine wE4 ?_; intro _) | refine wN ?_ | ((with_reducible show evIs _ (_ :: _) _ _); first | refine wQ ?_ | refine wF ?_ | refine wG ?_ | refine wT ?_ | refine wM ?_ | refine wS ?_ | refine wP ?_ | refine wJ ?_ | refine wX ?_ | refine wY ?_))
    clear hF
    repeat refine evDone ?_
    try (show AW _ _ _ _ _)
    repeat refine AW.seq ?_
    refine AW.condT (by simp [hpo]) (by simp [hpo]) ?_
    repeat refine AW.seq ?_
    refine AW.reg ?_
    have hF := And.intro (heM) (And.intro (hwu) (And.intro (hu2) (And.intro (hu3) (And.intro (heU) (And.intro (hlU) (hnl))))))
    repeat (first | refine wD1 ?_ | refine wD2 ?_ | refine wE1 ?_ | refine wE2 ?_ | (refine wE3 ?_; intro _) | (refine wE4 ?_; intro _) | refine wN ?_ | ((with_reducible show evIs _ (_ :: _) _ _); first | refine wQ ?_ | refine wF ?_ | refine wG ?_ | refine wT ?_ | refine wM ?_ | refine wS ?_ | refine wP ?_ | refine wJ ?_ | refine wX ?_ | refine wY ?_))
    clear hF
    repeat refine evDone ?_
    try (show AW _ _ _ _ _)
    repeat refine AW.seq ?_
    refine AW.reg ?_
    have hF := And.intro (heM) (And.intro (hwu) (And.intro (hu2) (And.intro (hu5) (And.intro (hu6) (And.intro (hsetM) (And.intro (hlU) (And.intro (htU) (And.intro (eq_true hcU) (hnl)))))))))
    repeat (first | refine wD1 ?_ | refine wD2 ?_ | refine wE1 ?_ | refine wE2 ?_ | (refine wE3 ?_; intro _) | (refine wE4 ?_; intro _) | refine wN ?_ | ((with_reducible show evIs _ (_ :: _) _ _); first | refine wQ ?_ | refine wF ?_ | refine wG ?_ | refine wT ?_ | refine wM ?_ | refine wS ?_ | refine wP ?_ | refine wJ ?_ | refine wX ?_ | refine wY ?_))
    clear hF
    repeat refine evDone ?_
    try (show AW _ _ _ _ _)
    repeat refine AW.seq ?_
    refine AW.draw ?_
    have hF := hnl
    repeat (first | refine wD1 ?_ | refine wD2 ?_ | refine wE1 ?_ | refine wE2 ?_ | (refine wE3 ?_; intro _) | (refine wE4 ?_; intro _) | refine wN ?_ | ((with_reducible show evIs _ (_ :: _) _ _); first | refine wQ ?_ | refine wF ?_ | refine wG ?_ | refine wT ?_ | refine wM ?_ | refine wS ?_ | refine wP ?_ | refine wJ ?_ | refine wX ?_ | refine wY ?_))
    clear hF
    repeat refine evDone ?_
    try (show AW _ _ _ _ _)
    refine AW.fit (st' := mkS [(2, .hdr (N + 5) 0 (A.length + 1)), (3, .ptr (N + 1) 0 0), (4, .ptr (N + 2) 0 0), (5, .bool false)] [(N + 5, ⟨5, true, A.map Frame.ao ++ [.agg [.int .i64 fn, .int .i64 pc, .hdr (N + 300) 0 slots.length, .sl .fro (avs stack), .hdr (N + 301) 0 (ms.length + 1)]]⟩), (N + 300, ⟨5, false, avs slots⟩), (N + 301, ⟨10, false, ms.map Mark.av ++ [.agg [.int .i64 3, .int .i64 target, .int .i64 slot, .int .i64 height, .sl .fro (us.map Undo.av), .int .i64 tk, .int .i64 tn, .str tt, .sl .fro (avs ti), .sl .fro (ts.map .str)]]⟩), (N + 1, ⟨2, true, [.agg [.int .i64 wf, .sl .fro (avs wa)]]⟩), (N + 2, ⟨5, true, [.agg [.int .i64 0, .int .i64 0, .str ⟨#[]⟩, .sl .fro [], .sl .fro []]]⟩)] (N + 900)) ?_ ?_
    · refine Fit.mk _ _ _ (by simp [htM, hnl, conv2, newEmp, convs_refl, convs, conv]) (by simp [htM, hnl, heapFit, newEmp, conv2s, conv2, convs_refl, convs, conv]) (by intro q hq; first | (simp at hq; done) | (simp at hq; omega) | (simp at hq; simp; omega))
    rw [mkS_eq]
    refine AW.fit (shutLast (N + 5) (N + 300) (N + 301) (A.map Frame.ao) fn pc slots stack (ms ++ [⟨3, target, slot, height, us, tk, tn, tt, ti, ts⟩]) (ms.map Mark.av ++ [.agg [.int .i64 3, .int .i64 target, .int .i64 slot, .int .i64 height, .sl .fro (us.map Undo.av), .int .i64 tk, .int .i64 tn, .str tt, .sl .fro (avs ti), .sl .fro (ts.map .str)]]) ((ms.length + 1)) (by simp [rowH]) (by simp) (by simp) (by simp) (by simp [Mark.av, htM]) hA1 hA2 (by omega) (by omega) (by omega)) ?_
    subst hN
    refine AW.ret ⟨by simp [resP, a18_res, ARes.op, hupd, hnl], [(N + 5, ⟨5, false, (A ++ [⟨fn, pc, slots, stack, ms ++ [⟨3, target, slot, height, us, tk, tn, tt, ti, ts⟩]⟩] : List Frame).map Frame.ao⟩)], N + 1000, [.hdr (N + 5) 0 (A ++ [⟨fn, pc, slots, stack, ms ++ [⟨3, target, slot, height, us, tk, tn, tt, ti, ts⟩]⟩] : List Frame).length, .agg [.int .i64 wf, .sl .fro (avs wa)], .agg [.int .i64 0, .int .i64 0, .str ⟨#[]⟩, .sl .fro [], .sl .fro []], .bool false], ⟨rfl, rfl, rfl⟩, by omega, by simp, rfl, by simp, ?_⟩
    simp only [resV, a18_res, List.map_cons, List.map_nil, List.map_append, List.length_append, List.length_cons, List.length_nil, Nat.zero_add, ARes.op]
    refine Fit.mk _ _ _ (by simp [hupd, hnl, conv2, newEmp, convs_refl, convs, conv]) (by simp [hupd, hnl, heapFit, newEmp, conv2s, conv2, convs_refl, convs, conv]) (by intro q hq; first | (simp at hq; done) | (simp at hq; omega) | (simp at hq; simp; omega))
end Go.Proofs.Ytafkaofaioleiaa

set_option linter.unusedSimpArgs false
set_option linter.unusedVariables false
set_option maxHeartbeats 16000000
namespace Go.Proofs.Ytafkaofaioleiaa
open Go Go.Amb Go.IntWalk

theorem f55 (N S M ns nm : Nat) (fn pc : Int) (stack : List Val) (m : Mark) : BCall Try.prog 55 [] N [.agg [.int .i64 fn, .int .i64 pc, .hdr S 0 ns, .sl .fro (avs stack), .hdr M 0 nm], m.av] (fun H1 n' v => H1 = [] ∧ n' = N + 40 ∧ v = .agg [.int .i64 fn, .int .i64 pc, .hdr S 0 ns, .sl .fro (avs (cutS stack m.height)), .hdr M 0 nm]) := by
  obtain ⟨kind, target, slot, height, us, tk, tn, tt, ti, ts⟩ := m
  have hnl : ∀ k, (N + k < N) = False := fun k => eq_false (by omega)
  have hsl := av_len stack
  simp only [Mark.av]
  refine bcall_coded a55_ok (by simp) ?_
  repeat refine AW.seq ?_
  refine AW.reg ?_
  have hF := hnl
  repeat (first | refine wD1 ?_ | refine wD2 ?_ | refine wE1 ?_ | refine wE2 ?_ | (refine wE3 ?_; intro _) | (refine wE4 ?_; intro _) | refine wN ?_ | ((with_reducible show evIs _ (_ :: _) _ _); first | refine wQ ?_ | refine wF ?_ | refine wG ?_ | refine wT ?_ | refine wM ?_ | refine wS ?_ | refine wP ?_ | refine wJ ?_ | refine wX ?_ | refine wY ?_))
  clear hF
  repeat refine evDone ?_
  try (show AW _ _ _ _ _)
  repeat refine AW.seq ?_
  refine AW.reg ?_
  by_cases h1 : 0 ≤ height
  · by_cases h2 : height < stack.length
    · have h3 : height ≤ stack.length := by omega
      have h4 : height.toNat ≤ stack.length := by omega
      have ht : (avs stack).take height.toNat = avs (stack.take height.toNat) := by simp [vals_map]
      have hcs : cutS stack height = stack.take height.toNat := by simp [cutS, h1, h2]
      rw [hcs]
      have hF := And.intro (h1) (And.intro (h2) (And.intro (eq_true hsl) (hnl)))
      repeat (first | refine wD1 ?_ | refine wD2 ?_ | refine wE1 ?_ | refine wE2 ?_ | (refine wE3 ?_; intro _) | (refine wE4 ?_; intro _) | refine wN ?_ | ((with_reducible show evIs _ (_ :: _) _ _); first | refine wQ ?_ | refine wF ?_ | refine wG ?_ | refine wT ?_ | refine wM ?_ | refine wS ?_ | refine wP ?_ | refine wJ ?_ | refine wX ?_ | refine wY ?_))
      clear hF
      repeat refine evDone ?_
      try (show AW _ _ _ _ _)
      repeat refine AW.seq ?_
      refine AW.condT (by simp []) (by simp []) ?_
      repeat refine AW.seq ?_
      refine AW.reg ?_
      have hF := And.intro (h1) (And.intro (h2) (And.intro (h3) (And.intro (h4) (And.intro (ht) (And.intro (eq_true hsl) (hnl))))))
      repeat (first | refine wD1 ?_ | refine wD2 ?_ | refine wE1 ?_ | refine wE2 ?_ | (refine wE3 ?_; intro _) | (refine wE4 ?_; intro _) | refine wN ?_ | ((with_reducible show evIs _ (_ :: _) _ _); first | refine wQ ?_ | refine wF ?_ | refine wG ?_ | refine wT ?_ | refine wM ?_ | refine wS ?_ | refine wP ?_ | refine wJ ?_ | refine wX ?_ | refine wY ?_))
      clear hF
      repeat refine evDone ?_
      try (show AW _ _ _ _ _)
      repeat refine AW.seq ?_
      refine AW.reg ?_
      have hF := hnl
      repeat (first | refine wD1 ?_ | refine wD2 ?_ | refine wE1 ?_ | refine wE2 ?_ | (refine wE3 ?_; intro _) | (refine wE4 ?_; intro _) | refine wN ?_ | ((with_reducible show evIs _ (_ :: _) _ _); first | refine wQ ?_ | refine wF ?_ | refine wG ?_ | refine wT ?_ | refine wM ?_ | refine wS ?_ | refine wP ?_ | refine wJ ?_ | refine wX ?_ | refine wY ?_))
      clear hF
      repeat refine evDone ?_
      try (show AW _ _ _ _ _)
      refine AW.ret ⟨by simp [resP, a55_res, ARes.op, hnl], [], N + 40, [.agg [.int .i64 fn, .int .i64 pc, .hdr S 0 ns, .sl .fro (avs (stack.take height.toNat)), .hdr M 0 nm]], ⟨rfl, rfl, rfl⟩, by omega, by simp, rfl, by simp, ?_⟩
      simp only [resV, a55_res, List.map_cons, List.map_nil, ARes.op]
      refine Fit.mk _ _ _ (by simp [hnl, conv2, newEmp, convs_refl, convs, conv]) (by simp [hnl, heapFit, newEmp, conv2s, conv2, convs_refl, convs, conv]) (by intro q hq; first | (simp at hq; done) | (simp at hq; omega) | (simp at hq; simp; omega))
    · have hcs : cutS stack height = stack := by simp [cutS, h1, h2]
      rw [hcs]
      have hF := And.intro (h1) (And.intro (h2) (And.intro (eq_true hsl) (hnl)))
      repeat (first | refine wD1 ?_ | refine wD2 ?_ | refine wE1 ?_ | refine wE2 ?_ | (refine wE3 ?_; intro _) | (refine wE4 ?_; intro _) | refine wN ?_ | ((with_reducible show evIs _ (_ :: _) _ _); first | refine wQ ?_ | refine wF ?_ | refine wG ?_ | refine wT ?_ | refine wM ?_ | refine wS ?_ | refine wP ?_ | refine wJ ?_ | refine wX ?_ | refine wY ?_))
      clear hF
      repeat refine evDone ?_
      try (show AW _ _ _ _ _)
      repeat refine AW.seq ?_
      refine AW.condF (by simp []) (by simp []) ?_
      refine AW.skip ?_
      show AW _ _ _ _ _
      repeat refine AW.seq ?_
      refine AW.reg ?_
      have hF := hnl
      repeat (first | refine wD1 ?_ | refine wD2 ?_ | refine wE1 ?_ | refine wE2 ?_ | (refine wE3 ?_; intro _) | (refine wE4 ?_; intro _) | refine wN ?_ | ((with_reducible show evIs _ (_ :: _) _ _); first | refine wQ ?_ | refine wF ?_ | refine wG ?_ | refine wT ?_ | refine wM ?_ | refine wS ?_ | refine wP ?_ | refine wJ ?_ | refine wX ?_ | refine wY ?_))
      clear hF
      repeat refine evDone ?_
      try (show AW _ _ _ _ _)
      refine AW.ret ⟨by simp [resP, a55_res, ARes.op, hnl], [], N + 40, [.agg [.int .i64 fn, .int .i64 pc, .hdr S 0 ns, .sl .fro (avs stack), .hdr M 0 nm]], ⟨rfl, rfl, rfl⟩, by omega, by simp, rfl, by simp, ?_⟩
      simp only [resV, a55_res, List.map_cons, List.map_nil, ARes.op]
      refine Fit.mk _ _ _ (by simp [hnl, conv2, newEmp, convs_refl, convs, conv]) (by simp [hnl, heapFit, newEmp, conv2s, conv2, convs_refl, convs, conv]) (by intro q hq; first | (simp at hq; done) | (simp at hq; omega) | (simp at hq; simp; omega))
  · have hcs : cutS stack height = stack := by simp [cutS, h1]
    rw [hcs]
    have hF := And.intro (h1) (And.intro (eq_true hsl) (hnl))
    repeat (first | refine wD1 ?_ | refine wD2 ?_ | refine wE1 ?_ | refine wE2 ?_ | (refine wE3 ?_; intro _) | (refine wE4 ?_; intro _) | refine wN ?_ | ((with_reducible show evIs _ (_ :: _) _ _); first | refine wQ ?_ | refine wF ?_ | refine wG ?_ | refine wT ?_ | refine wM ?_ | refine wS ?_ | refine wP ?_ | refine wJ ?_ | refine wX ?_ | refine wY ?_))
    clear hF
    repeat refine evDone ?_
    try (show AW _ _ _ _ _)
    repeat refine AW.seq ?_
    refine AW.condF (by simp []) (by simp []) ?_
    refine AW.skip ?_
    show AW _ _ _ _ _
    repeat refine AW.seq ?_
    refine AW.reg ?_
    have hF := hnl
    repeat (first | refine wD1 ?_ | refine wD2 ?_ | refine wE1 ?_ | refine wE2 ?_ | (refine wE3 ?_; intro _) | (refine wE4 ?_; intro _) | refine wN ?_ | ((with_reducible show evIs _ (_ :: _) _ _); first | refine wQ ?_ | refine wF ?_ | refine wG ?_ | refine wT ?_ | refine wM ?_ | refine wS ?_ | refine wP ?_ | refine wJ ?_ | refine wX ?_ | refine wY ?_))
    clear hF
    repeat refine evDone ?_
    try (show AW _ _ _ _ _)
    refine AW.ret ⟨by simp [resP, a55_res, ARes.op, hnl], [], N + 40, [.agg [.int .i64 fn, .int .i64 pc, .hdr S 0 ns, .sl .fro (avs stack), .hdr M 0 nm]], ⟨rfl, rfl, rfl⟩, by omega, by simp, rfl, by simp, ?_⟩
    simp only [resV, a55_res, List.map_cons, List.map_nil, ARes.op]
    refine Fit.mk _ _ _ (by simp [hnl, conv2, newEmp, convs_refl, convs, conv]) (by simp [hnl, heapFit, newEmp, conv2s, conv2, convs_refl, convs, conv]) (by intro q hq; first | (simp at hq; done) | (simp at hq; omega) | (simp at hq; simp; omega))
/-- What a step of the reference's Throw gives. -/
def StepPost (N R : Nat) (o : Out) (H1 : List (Nat × Blk)) (n' : Nat) (r : AV) : Prop :=
  match o with
  | .go fs v => ∃ R', (R' = R ∨ N ≤ R') ∧ R' < n' ∧ H1 = [(R', ⟨5, false, fs.map Frame.ao⟩)] ∧ r = .tup [.hdr R' 0 fs.length, v.av, noneU.av, .bool false, .bool false]
  | .done fs u true => ∃ R' v, (R' = R ∨ N ≤ R') ∧ R' < n' ∧ H1 = [(R', ⟨5, false, fs.map Frame.ao⟩)] ∧ r = .tup [.hdr R' 0 fs.length, Val.av v, u.av, .bool true, .bool true]
  | .done fs u false => ∃ v, H1 = [] ∧ r = .tup [.sl .ext [], Val.av v, u.av, .bool true, .bool false]
def rtryC : ACode := (.seq a41_r10 (.seq a41_r11 (.seq (.seq a41_r12 (.cond (.t 70) a41_r13 .skip)) (.seq a41_r14 (.seq a41_r15 (.seq a41_r16 .ret))))))
def rsagaC : ACode := (.seq a41_r19 (.seq (.seq a41_r20 (.cond (.t 95) (.seq a41_r21 a41_r22) .skip)) (.seq a41_r23 (.seq a41_r24 (.seq (.seq a41_r25 (.cond (.t 124) (.seq a41_r26 .ret) .skip)) (.seq a41_r27 .ret))))))
def rotherC : ACode := (.seq a41_r28 (.seq a41_r29 (.seq a41_r30 .ret)))
theorem r_try (A : List Frame) (ms : List Mark) (fn pc : Int) (slots stack : List Val) (target slot height : Int) (us : List Undo) (tk tn : Int) (tt : ByteArray) (ti : List Val) (ts : List ByteArray) (a b : Int) (c : ByteArray) (d : List Val) (e : List ByteArray) (N R : Nat) (hRN : R < N) (H0 : List (Nat × Blk)) (hH0 : (mkH H0 R).isSome = true) (hkA : A.length < 12) (hml : ms.length < 12) (Q : AE → St → Prop) (hQ : ∀ s, retB a41_res H0 N (StepPost N R (.done (A ++ [⟨fn, target, setS slots slot (Val.mk a b c d e), cutS stack height, ms⟩]) noneU true)) .ret s → Q .ret s) : AW Try.prog 146 rtryC (mkS [(0, .hdr R 0 (A.length + 1)), (3, .ptr N 0 0), (4, .sl .ext []), (5, .ptr (N + 2) 0 0), (6, .ptr (N + 3) 0 0), (7, .bool false), (8, .bool false), (9, .int .i64 A.length), (10, .ptr (N + 334) 0 0), (11, .ptr (N + 358) 0 0), (46, .int .i64 1)] [(R, ⟨5, true, A.map Frame.ao ++ [.agg [.int .i64 fn, .int .i64 pc, .hdr (N + 300) 0 slots.length, .sl .fro (avs stack), .hdr (N + 301) 0 (ms.length + 1)]]⟩), (N + 300, ⟨5, false, avs slots⟩), (N + 301, ⟨10, false, ms.map Mark.av ++ [.agg [.int .i64 1, .int .i64 target, .int .i64 slot, .int .i64 height, .sl .fro (us.map Undo.av), .int .i64 tk, .int .i64 tn, .str tt, .sl .fro (avs ti), .sl .fro (ts.map .str)]]⟩), (N, ⟨5, true, [.agg [.int .i64 a, .int .i64 b, .str c, .sl .fro (avs d), .sl .fro (e.map .str)]]⟩), (N + 2, ⟨5, true, [.agg [.int .i64 0, .int .i64 0, .str ⟨#[]⟩, .sl .ext [], .sl .ext []]]⟩), (N + 3, ⟨2, true, [.agg [.int .i64 0, .sl .ext []]]⟩), (N + 334, ⟨5, true, [.agg [.int .i64 fn, .int .i64 pc, .hdr (N + 300) 0 slots.length, .sl .fro (avs stack), .hdr (N + 301) 0 (ms.length + 1)]]⟩), (N + 358, ⟨10, true, [.agg [.int .i64 1, .int .i64 target, .int .i64 slot, .int .i64 height, .sl .fro (us.map Undo.av), .int .i64 tk, .int .i64 tn, .str tt, .sl .fro (avs ti), .sl .fro (ts.map .str)]]⟩)] (N + 400)) Q := by
  have hN : (∀ q, (R = N + q) = False) ∧ (∀ q, (N + q = R) = False) ∧ (R = N) = False ∧ (N = R) = False ∧ (∀ q, (N + q < N) = False) ∧ (∀ q, R < N + q) ∧ R < N := by
    refine ⟨?_, ?_, ?_, ?_, ?_, ?_, ?_⟩ <;> first | exact eq_false (by omega) | exact fun q => eq_false (by omega) | exact fun q => by omega | omega
  have hA1 := ao_len A
  have hA2 := ao_shut A
  have he := elem_snoc Frame.ao A
  have hset := set_snoc Frame.ao A
  have htk := take_snoc Frame.ao A
  have heM := elem_snoc Mark.av ms
  have hsetM := set_snoc Mark.av ms
  have hsl := av_len slots
  have h2 : (0 : Int) ≤ A.length := by omega
  have h3 : (A.length : Int) < (A.length : Int) + 1 := by omega
  have h4 : A.length < A.length + 1 := by omega
  have hw' : IntKind.i64.wrap (ms.length : Int) = (ms.length : Int) := i64_in _ ⟨by omega, by omega⟩
  have h2' : (0 : Int) ≤ ms.length := by omega
  have h3' : (ms.length : Int) < (ms.length : Int) + 1 := by omega
  have h4' : ms.length < ms.length + 1 := by omega
  have h5' : (ms.length : Int) ≤ (ms.length : Int) + 1 := by omega
  have h6' : ms.length ≤ ms.length + 1 := by omega
  have h55 := f55 (N + 450) (N + 300) (N + 301) slots.length (ms.length + 1) fn pc stack ⟨1, target, slot, height, us, tk, tn, tt, ti, ts⟩
  simp only [Mark.av] at h55
  repeat refine AW.seq ?_
  refine AW.reg ?_
  have hF := hN
  repeat (first | refine wD1 ?_ | refine wD2 ?_ | refine wE1 ?_ | refine wE2 ?_ | (refine wE3 ?_; intro _) | (refine wE4 ?_; intro _) | refine wN ?_ | ((with_reducible show evIs _ (_ :: _) _ _); first | refine wQ ?_ | refine wF ?_ | refine wG ?_ | refine wT ?_ | refine wM ?_ | refine wS ?_ | refine wP ?_ | refine wJ ?_ | refine wX ?_ | refine wY ?_))
  clear hF
  repeat refine evDone ?_
  try (show AW _ _ _ _ _)
  have hF := hN
  refine wL (hA := h55) ?_
  clear hF
  rintro _ _ _ ⟨rfl, rfl, rfl⟩
  have hF := hN
  repeat (first | refine wD1 ?_ | refine wD2 ?_ | refine wE1 ?_ | refine wE2 ?_ | (refine wE3 ?_; intro _) | (refine wE4 ?_; intro _) | refine wN ?_ | ((with_reducible show evIs _ (_ :: _) _ _); first | refine wQ ?_ | refine wF ?_ | refine wG ?_ | refine wT ?_ | refine wM ?_ | refine wS ?_ | refine wP ?_ | refine wJ ?_ | refine wX ?_ | refine wY ?_))
  clear hF
  repeat refine evDone ?_
  try (show AW _ _ _ _ _)
  repeat refine AW.seq ?_
  refine AW.reg ?_
  have hF := And.intro (h2) (And.intro (h3) (And.intro (h4) (And.intro (hw') (And.intro (h2') (And.intro (h3') (And.intro (h4') (And.intro (h5') (And.intro (h6') (And.intro (he) (And.intro (hset) (And.intro (heM) (And.intro (hsetM) (And.intro (hsl) (hN))))))))))))))
  repeat (first | refine wD1 ?_ | refine wD2 ?_ | refine wE1 ?_ | refine wE2 ?_ | (refine wE3 ?_; intro _) | (refine wE4 ?_; intro _) | refine wN ?_ | ((with_reducible show evIs _ (_ :: _) _ _); first | refine wQ ?_ | refine wF ?_ | refine wG ?_ | refine wT ?_ | refine wM ?_ | refine wS ?_ | refine wP ?_ | refine wJ ?_ | refine wX ?_ | refine wY ?_))
  clear hF
  repeat refine evDone ?_
  try (show AW _ _ _ _ _)
  repeat refine AW.seq ?_
  refine AW.reg ?_
  by_cases hs1 : 0 ≤ slot
  · by_cases hs2 : slot < slots.length
    · have hs3 : slot.toNat < slots.length := by omega
      have hst := avs_set slots slot.toNat (Val.mk a b c d e)
      have hsl2 : (slots.set slot.toNat (Val.mk a b c d e)).length = slots.length := by simp
      simp only [Val.av] at hst
      have hF := And.intro (hs1) (And.intro (hs2) (And.intro (h2) (And.intro (h3) (And.intro (h4) (And.intro (hw') (And.intro (h2') (And.intro (h3') (And.intro (h4') (And.intro (h5') (And.intro (h6') (And.intro (he) (And.intro (hset) (And.intro (heM) (And.intro (hsetM) (And.intro (hsl) (hN))))))))))))))))
      repeat (first | refine wD1 ?_ | refine wD2 ?_ | refine wE1 ?_ | refine wE2 ?_ | (refine wE3 ?_; intro _) | (refine wE4 ?_; intro _) | refine wN ?_ | ((with_reducible show evIs _ (_ :: _) _ _); first | refine wQ ?_ | refine wF ?_ | refine wG ?_ | refine wT ?_ | refine wM ?_ | refine wS ?_ | refine wP ?_ | refine wJ ?_ | refine wX ?_ | refine wY ?_))
      clear hF
      repeat refine evDone ?_
      try (show AW _ _ _ _ _)
      repeat refine AW.seq ?_
      refine AW.condT (by simp []) (by simp []) ?_
      repeat refine AW.seq ?_
      refine AW.reg ?_
      obtain ⟨y1, y2, y3, y4, y5, hy⟩ := elem_avs slots slot.toNat hs3
      have hF := And.intro (hs1) (And.intro (hs2) (And.intro (hs3) (And.intro (hst) (And.intro (hy) (And.intro (h2) (And.intro (h3) (And.intro (h4) (And.intro (hw') (And.intro (h2') (And.intro (h3') (And.intro (h4') (And.intro (h5') (And.intro (h6') (And.intro (he) (And.intro (hset) (And.intro (heM) (And.intro (hsetM) (And.intro (hsl) (hN)))))))))))))))))))
      repeat (first | refine wD1 ?_ | refine wD2 ?_ | refine wE1 ?_ | refine wE2 ?_ | (refine wE3 ?_; intro _) | (refine wE4 ?_; intro _) | refine wN ?_ | ((with_reducible show evIs _ (_ :: _) _ _); first | refine wQ ?_ | refine wF ?_ | refine wG ?_ | refine wT ?_ | refine wM ?_ | refine wS ?_ | refine wP ?_ | refine wJ ?_ | refine wX ?_ | refine wY ?_))
      clear hF
      repeat refine evDone ?_
      try (show AW _ _ _ _ _)
      repeat refine AW.seq ?_
      refine AW.reg ?_
      have hF := And.intro (h2) (And.intro (h3) (And.intro (h4) (And.intro (hw') (And.intro (h2') (And.intro (h3') (And.intro (h4') (And.intro (h5') (And.intro (h6') (And.intro (he) (And.intro (hset) (And.intro (heM) (And.intro (hsetM) (And.intro (hsl) (hN))))))))))))))
      repeat (first | refine wD1 ?_ | refine wD2 ?_ | refine wE1 ?_ | refine wE2 ?_ | (refine wE3 ?_; intro _) | (refine wE4 ?_; intro _) | refine wN ?_ | ((with_reducible show evIs _ (_ :: _) _ _); first | refine wQ ?_ | refine wF ?_ | refine wG ?_ | refine wT ?_ | refine wM ?_ | refine wS ?_ | refine wP ?_ | refine wJ ?_ | refine wX ?_ | refine wY ?_))
      clear hF
      repeat refine evDone ?_
      try (show AW _ _ _ _ _)
      repeat refine AW.seq ?_
      refine AW.reg ?_
      have hF := And.intro (h2) (And.intro (h3) (And.intro (h4) (And.intro (hw') (And.intro (h2') (And.intro (h3') (And.intro (h4') (And.intro (h5') (And.intro (h6') (And.intro (he) (And.intro (hset) (And.intro (heM) (And.intro (hsetM) (And.intro (hsl) (hN))))))))))))))
      repeat (first | refine wD1 ?_ | refine wD2 ?_ | refine wE1 ?_ | refine wE2 ?_ | (refine wE3 ?_; intro _) | (refine wE4 ?_; intro _) | refine wN ?_ | ((with_reducible show evIs _ (_ :: _) _ _); first | refine wQ ?_ | refine wF ?_ | refine wG ?_ | refine wT ?_ | refine wM ?_ | refine wS ?_ | refine wP ?_ | refine wJ ?_ | refine wX ?_ | refine wY ?_))
      clear hF
      repeat refine evDone ?_
      try (show AW _ _ _ _ _)
      repeat refine AW.seq ?_
      refine AW.draw ?_
      have hF := hN
      repeat (first | refine wD1 ?_ | refine wD2 ?_ | refine wE1 ?_ | refine wE2 ?_ | (refine wE3 ?_; intro _) | (refine wE4 ?_; intro _) | refine wN ?_ | ((with_reducible show evIs _ (_ :: _) _ _); first | refine wQ ?_ | refine wF ?_ | refine wG ?_ | refine wT ?_ | refine wM ?_ | refine wS ?_ | refine wP ?_ | refine wJ ?_ | refine wX ?_ | refine wY ?_))
      clear hF
      repeat refine evDone ?_
      try (show AW _ _ _ _ _)
      have hF := hN
      refine wC (hA := f43) ?_
      clear hF
      have hF := hN
      repeat (first | refine wD1 ?_ | refine wD2 ?_ | refine wE1 ?_ | refine wE2 ?_ | (refine wE3 ?_; intro _) | (refine wE4 ?_; intro _) | refine wN ?_ | ((with_reducible show evIs _ (_ :: _) _ _); first | refine wQ ?_ | refine wF ?_ | refine wG ?_ | refine wT ?_ | refine wM ?_ | refine wS ?_ | refine wP ?_ | refine wJ ?_ | refine wX ?_ | refine wY ?_))
      clear hF
      repeat refine evDone ?_
      try (show AW _ _ _ _ _)
      rw [show setS slots slot (Val.mk a b c d e) = (slots.set slot.toNat (Val.mk a b c d e)) by simp [setS, hs1, hs2]] at hQ
      refine AW.fit (st' := mkS [(4, .hdr R 0 (A.length + 1)), (5, .ptr (N + 2) 0 0), (6, .ptr (N + 3) 0 0), (7, .bool true), (8, .bool true)] [(R, ⟨5, true, A.map Frame.ao ++ [.agg [.int .i64 fn, .int .i64 target, .hdr (N + 300) 0 slots.length, .sl .fro (avs (cutS stack height)), .hdr (N + 301) 0 ms.length]]⟩), (N + 300, ⟨5, false, avs (slots.set slot.toNat (Val.mk a b c d e))⟩), (N + 301, ⟨10, false, ms.map Mark.av ++ [.agg [.int .i64 1, .int .i64 target, .int .i64 slot, .int .i64 height, .sl .fro (us.map Undo.av), .int .i64 tk, .int .i64 tn, .str tt, .sl .fro (avs ti), .sl .fro (ts.map .str)]]⟩), (N + 2, ⟨5, true, [.agg [.int .i64 a, .int .i64 b, .str c, .sl .fro (avs d), .sl .fro (e.map .str)]]⟩), (N + 3, ⟨2, true, [.agg [.int .i64 (-1), .sl .fro []]]⟩)] (N + 3000)) ?_ ?_
      · refine Fit.mk _ _ _ (by simp [hN, hsl, conv2, newEmp, convs_refl, convs, conv]) (by simp [hN, hsl, heapFit, newEmp, conv2s, conv2, convs_refl, convs, conv]) (by intro q hq; first | (simp at hq; done) | (simp at hq; omega) | (simp at hq; simp; omega))
      rw [mkS_eq]
      refine AW.fit (shutLast R (N + 300) (N + 301) (A.map Frame.ao) fn target (slots.set slot.toNat (Val.mk a b c d e)) (cutS stack height) (ms) (ms.map Mark.av ++ [.agg [.int .i64 1, .int .i64 target, .int .i64 slot, .int .i64 height, .sl .fro (us.map Undo.av), .int .i64 tk, .int .i64 tn, .str tt, .sl .fro (avs ti), .sl .fro (ts.map .str)]]) ms.length (by simp [rowH]) (by simp [hN]) (by simp [hN]) (by simp) (by simp [Mark.av]) hA1 hA2 (by omega) (by omega) (by omega)) ?_
      refine AW.ret (hQ _ ⟨by simp [resP, a41_res, ARes.op, hupd, hN], [(R, ⟨5, false, (A ++ [⟨fn, target, (slots.set slot.toNat (Val.mk a b c d e)), cutS stack height, ms⟩] : List Frame).map Frame.ao⟩)], N + 4000, [.hdr (R) 0 (A ++ [⟨fn, target, (slots.set slot.toNat (Val.mk a b c d e)), cutS stack height, ms⟩] : List Frame).length, .agg [.int .i64 a, .int .i64 b, .str c, .sl .fro (avs d), .sl .fro (e.map .str)], .agg [.int .i64 (-1), .sl .fro []], .bool true, .bool true], ⟨R, Val.mk a b c d e, .inl rfl, by omega, rfl, by simp [Val.av, noneU, Undo.av, avs, oneOf]⟩, by omega, (by intro p hp; simp at hp; subst hp; first | exact .inl hH0 | exact .inr (by dsimp only; omega)), rfl, by simp, ?_⟩)
      simp only [resV, a41_res, List.map_cons, List.map_nil, List.map_append, List.length_append, List.length_cons, List.length_nil, Nat.zero_add, ARes.op]
      refine Fit.mk _ _ _ (by simp [hupd, hN, conv2, newEmp, convs_refl, convs, conv]) (by simp [hupd, hN, heapFit, newEmp, conv2s, conv2, convs_refl, convs, conv]) (by intro q hq; first | (simp at hq; done) | (simp at hq; omega) | (simp at hq; simp; omega))
    · have hF := And.intro (hs1) (And.intro (hs2) (And.intro (h2) (And.intro (h3) (And.intro (h4) (And.intro (hw') (And.intro (h2') (And.intro (h3') (And.intro (h4') (And.intro (h5') (And.intro (h6') (And.intro (he) (And.intro (hset) (And.intro (heM) (And.intro (hsetM) (And.intro (hsl) (hN))))))))))))))))
      repeat (first | refine wD1 ?_ | refine wD2 ?_ | refine wE1 ?_ | refine wE2 ?_ | (refine wE3 ?_; intro _) | (refine wE4 ?_; intro _) | refine wN ?_ | ((with_reducible show evIs _ (_ :: _) _ _); first | refine wQ ?_ | refine wF ?_ | refine wG ?_ | refine wT ?_ | refine wM ?_ | refine wS ?_ | refine wP ?_ | refine wJ ?_ | refine wX ?_ | refine wY ?_))
      clear hF
      repeat refine evDone ?_
      try (show AW _ _ _ _ _)
      repeat refine AW.seq ?_
      refine AW.condF (by simp []) (by simp []) ?_
      refine AW.skip ?_
      show AW _ _ _ _ _
      repeat refine AW.seq ?_
      refine AW.reg ?_
      have hF := And.intro (h2) (And.intro (h3) (And.intro (h4) (And.intro (hw') (And.intro (h2') (And.intro (h3') (And.intro (h4') (And.intro (h5') (And.intro (h6') (And.intro (he) (And.intro (hset) (And.intro (heM) (And.intro (hsetM) (And.intro (hsl) (hN))))))))))))))
      repeat (first | refine wD1 ?_ | refine wD2 ?_ | refine wE1 ?_ | refine wE2 ?_ | (refine wE3 ?_; intro _) | (refine wE4 ?_; intro _) | refine wN ?_ | ((with_reducible show evIs _ (_ :: _) _ _); first | refine wQ ?_ | refine wF ?_ | refine wG ?_ | refine wT ?_ | refine wM ?_ | refine wS ?_ | refine wP ?_ | refine wJ ?_ | refine wX ?_ | refine wY ?_))
      clear hF
      repeat refine evDone ?_
      try (show AW _ _ _ _ _)
      repeat refine AW.seq ?_
      refine AW.reg ?_
      have hF := And.intro (h2) (And.intro (h3) (And.intro (h4) (And.intro (hw') (And.intro (h2') (And.intro (h3') (And.intro (h4') (And.intro (h5') (And.intro (h6') (And.intro (he) (And.intro (hset) (And.intro (heM) (And.intro (hsetM) (And.intro (hsl) (hN))))))))))))))
      repeat (first | refine wD1 ?_ | refine wD2 ?_ | refine wE1 ?_ | refine wE2 ?_ | (refine wE3 ?_; intro _) | (refine wE4 ?_; intro _) | refine wN ?_ | ((with_reducible show evIs _ (_ :: _) _ _); first | refine wQ ?_ | refine wF ?_ | refine wG ?_ | refine wT ?_ | refine wM ?_ | refine wS ?_ | refine wP ?_ | refine wJ ?_ | refine wX ?_ | refine wY ?_))
      clear hF
      repeat refine evDone ?_
      try (show AW _ _ _ _ _)
      repeat refine AW.seq ?_
      refine AW.draw ?_
      have hF := hN
      repeat (first | refine wD1 ?_ | refine wD2 ?_ | refine wE1 ?_ | refine wE2 ?_ | (refine wE3 ?_; intro _) | (refine wE4 ?_; intro _) | refine wN ?_ | ((with_reducible show evIs _ (_ :: _) _ _); first | refine wQ ?_ | refine wF ?_ | refine wG ?_ | refine wT ?_ | refine wM ?_ | refine wS ?_ | refine wP ?_ | refine wJ ?_ | refine wX ?_ | refine wY ?_))
      clear hF
      repeat refine evDone ?_
      try (show AW _ _ _ _ _)
      have hF := hN
      refine wC (hA := f43) ?_
      clear hF
      have hF := hN
      repeat (first | refine wD1 ?_ | refine wD2 ?_ | refine wE1 ?_ | refine wE2 ?_ | (refine wE3 ?_; intro _) | (refine wE4 ?_; intro _) | refine wN ?_ | ((with_reducible show evIs _ (_ :: _) _ _); first | refine wQ ?_ | refine wF ?_ | refine wG ?_ | refine wT ?_ | refine wM ?_ | refine wS ?_ | refine wP ?_ | refine wJ ?_ | refine wX ?_ | refine wY ?_))
      clear hF
      repeat refine evDone ?_
      try (show AW _ _ _ _ _)
      rw [show setS slots slot (Val.mk a b c d e) = slots by simp [setS, hs1, hs2]] at hQ
      refine AW.fit (st' := mkS [(4, .hdr R 0 (A.length + 1)), (5, .ptr (N + 2) 0 0), (6, .ptr (N + 3) 0 0), (7, .bool true), (8, .bool true)] [(R, ⟨5, true, A.map Frame.ao ++ [.agg [.int .i64 fn, .int .i64 target, .hdr (N + 300) 0 slots.length, .sl .fro (avs (cutS stack height)), .hdr (N + 301) 0 ms.length]]⟩), (N + 300, ⟨5, false, avs slots⟩), (N + 301, ⟨10, false, ms.map Mark.av ++ [.agg [.int .i64 1, .int .i64 target, .int .i64 slot, .int .i64 height, .sl .fro (us.map Undo.av), .int .i64 tk, .int .i64 tn, .str tt, .sl .fro (avs ti), .sl .fro (ts.map .str)]]⟩), (N + 2, ⟨5, true, [.agg [.int .i64 a, .int .i64 b, .str c, .sl .fro (avs d), .sl .fro (e.map .str)]]⟩), (N + 3, ⟨2, true, [.agg [.int .i64 (-1), .sl .fro []]]⟩)] (N + 3000)) ?_ ?_
      · refine Fit.mk _ _ _ (by simp [hN, hsl, conv2, newEmp, convs_refl, convs, conv]) (by simp [hN, hsl, heapFit, newEmp, conv2s, conv2, convs_refl, convs, conv]) (by intro q hq; first | (simp at hq; done) | (simp at hq; omega) | (simp at hq; simp; omega))
      rw [mkS_eq]
      refine AW.fit (shutLast R (N + 300) (N + 301) (A.map Frame.ao) fn target slots (cutS stack height) (ms) (ms.map Mark.av ++ [.agg [.int .i64 1, .int .i64 target, .int .i64 slot, .int .i64 height, .sl .fro (us.map Undo.av), .int .i64 tk, .int .i64 tn, .str tt, .sl .fro (avs ti), .sl .fro (ts.map .str)]]) ms.length (by simp [rowH]) (by simp [hN]) (by simp [hN]) (by simp) (by simp [Mark.av]) hA1 hA2 (by omega) (by omega) (by omega)) ?_
      refine AW.ret (hQ _ ⟨by simp [resP, a41_res, ARes.op, hupd, hN], [(R, ⟨5, false, (A ++ [⟨fn, target, slots, cutS stack height, ms⟩] : List Frame).map Frame.ao⟩)], N + 4000, [.hdr (R) 0 (A ++ [⟨fn, target, slots, cutS stack height, ms⟩] : List Frame).length, .agg [.int .i64 a, .int .i64 b, .str c, .sl .fro (avs d), .sl .fro (e.map .str)], .agg [.int .i64 (-1), .sl .fro []], .bool true, .bool true], ⟨R, Val.mk a b c d e, .inl rfl, by omega, rfl, by simp [Val.av, noneU, Undo.av, avs, oneOf]⟩, by omega, (by intro p hp; simp at hp; subst hp; first | exact .inl hH0 | exact .inr (by dsimp only; omega)), rfl, by simp, ?_⟩)
      simp only [resV, a41_res, List.map_cons, List.map_nil, List.map_append, List.length_append, List.length_cons, List.length_nil, Nat.zero_add, ARes.op]
      refine Fit.mk _ _ _ (by simp [hupd, hN, conv2, newEmp, convs_refl, convs, conv]) (by simp [hupd, hN, heapFit, newEmp, conv2s, conv2, convs_refl, convs, conv]) (by intro q hq; first | (simp at hq; done) | (simp at hq; omega) | (simp at hq; simp; omega))
  · have hs2 : True := trivial
    have hF := And.intro (hs1) (And.intro (h2) (And.intro (h3) (And.intro (h4) (And.intro (hw') (And.intro (h2') (And.intro (h3') (And.intro (h4') (And.intro (h5') (And.intro (h6') (And.intro (he) (And.intro (hset) (And.intro (heM) (And.intro (hsetM) (And.intro (hsl) (hN)))))))))))))))
    repeat (first | refine wD1 ?_ | refine wD2 ?_ | refine wE1 ?_ | refine wE2 ?_ | (refine wE3 ?_; intro _) | (refine wE4 ?_; intro _) | refine wN ?_ | ((with_reducible show evIs _ (_ :: _) _ _); first | refine wQ ?_ | refine wF ?_ | refine wG ?_ | refine wT ?_ | refine wM ?_ | refine wS ?_ | refine wP ?_ | refine wJ ?_ | refine wX ?_ | refine wY ?_))
    clear hF
    repeat refine evDone ?_
    try (show AW _ _ _ _ _)
    repeat refine AW.seq ?_
    refine AW.condF (by simp []) (by simp []) ?_
    refine AW.skip ?_
    show AW _ _ _ _ _
    repeat refine AW.seq ?_
    refine AW.reg ?_
    have hF := And.intro (h2) (And.intro (h3) (And.intro (h4) (And.intro (hw') (And.intro (h2') (And.intro (h3') (And.intro (h4') (And.intro (h5') (And.intro (h6') (And.intro (he) (And.intro (hset) (And.intro (heM) (And.intro (hsetM) (And.intro (hsl) (hN))))))))))))))
    repeat (first | refine wD1 ?_ | refine wD2 ?_ | refine wE1 ?_ | refine wE2 ?_ | (refine wE3 ?_; intro _) | (refine wE4 ?_; intro _) | refine wN ?_ | ((with_reducible show evIs _ (_ :: _) _ _); first | refine wQ ?_ | refine wF ?_ | refine wG ?_ | refine wT ?_ | refine wM ?_ | refine wS ?_ | refine wP ?_ | refine wJ ?_ | refine wX ?_ | refine wY ?_))
    clear hF
    repeat refine evDone ?_
    try (show AW _ _ _ _ _)
    repeat refine AW.seq ?_
    refine AW.reg ?_
    have hF := And.intro (h2) (And.intro (h3) (And.intro (h4) (And.intro (hw') (And.intro (h2') (And.intro (h3') (And.intro (h4') (And.intro (h5') (And.intro (h6') (And.intro (he) (And.intro (hset) (And.intro (heM) (And.intro (hsetM) (And.intro (hsl) (hN))))))))))))))
    repeat (first | refine wD1 ?_ | refine wD2 ?_ | refine wE1 ?_ | refine wE2 ?_ | (refine wE3 ?_; intro _) | (refine wE4 ?_; intro _) | refine wN ?_ | ((with_reducible show evIs _ (_ :: _) _ _); first | refine wQ ?_ | refine wF ?_ | refine wG ?_ | refine wT ?_ | refine wM ?_ | refine wS ?_ | refine wP ?_ | refine wJ ?_ | refine wX ?_ | refine wY ?_))
    clear hF
    repeat refine evDone ?_
    try (show AW _ _ _ _ _)
    repeat refine AW.seq ?_
    refine AW.draw ?_
    have hF := hN
    repeat (first | refine wD1 ?_ | refine wD2 ?_ | refine wE1 ?_ | refine wE2 ?_ | (refine wE3 ?_; intro _) | (refine wE4 ?_; intro _) | refine wN ?_ | ((with_reducible show evIs _ (_ :: _) _ _); first | refine wQ ?_ | refine wF ?_ | refine wG ?_ | refine wT ?_ | refine wM ?_ | refine wS ?_ | refine wP ?_ | refine wJ ?_ | refine wX ?_ | refine wY ?_))
    clear hF
    repeat refine evDone ?_
    try (show AW _ _ _ _ _)
    have hF := hN
    refine wC (hA := f43) ?_
    clear hF
    have hF := hN
    repeat (first | refine wD1 ?_ | refine wD2 ?_ | refine wE1 ?_ | refine wE2 ?_ | (refine wE3 ?_; intro _) | (refine wE4 ?_; intro _) | refine wN ?_ | ((with_reducible show evIs _ (_ :: _) _ _); first | refine wQ ?_ | refine wF ?_ | refine wG ?_ | refine wT ?_ | refine wM ?_ | refine wS ?_ | refine wP ?_ | refine wJ ?_ | refine wX ?_ | refine wY ?_))
    clear hF
    repeat refine evDone ?_
    try (show AW _ _ _ _ _)
    rw [show setS slots slot (Val.mk a b c d e) = slots by simp [setS, hs1, hs2]] at hQ
    refine AW.fit (st' := mkS [(4, .hdr R 0 (A.length + 1)), (5, .ptr (N + 2) 0 0), (6, .ptr (N + 3) 0 0), (7, .bool true), (8, .bool true)] [(R, ⟨5, true, A.map Frame.ao ++ [.agg [.int .i64 fn, .int .i64 target, .hdr (N + 300) 0 slots.length, .sl .fro (avs (cutS stack height)), .hdr (N + 301) 0 ms.length]]⟩), (N + 300, ⟨5, false, avs slots⟩), (N + 301, ⟨10, false, ms.map Mark.av ++ [.agg [.int .i64 1, .int .i64 target, .int .i64 slot, .int .i64 height, .sl .fro (us.map Undo.av), .int .i64 tk, .int .i64 tn, .str tt, .sl .fro (avs ti), .sl .fro (ts.map .str)]]⟩), (N + 2, ⟨5, true, [.agg [.int .i64 a, .int .i64 b, .str c, .sl .fro (avs d), .sl .fro (e.map .str)]]⟩), (N + 3, ⟨2, true, [.agg [.int .i64 (-1), .sl .fro []]]⟩)] (N + 3000)) ?_ ?_
    · refine Fit.mk _ _ _ (by simp [hN, hsl, conv2, newEmp, convs_refl, convs, conv]) (by simp [hN, hsl, heapFit, newEmp, conv2s, conv2, convs_refl, convs, conv]) (by intro q hq; first | (simp at hq; done) | (simp at hq; omega) | (simp at hq; simp; omega))
    rw [mkS_eq]
    refine AW.fit (shutLast R (N + 300) (N + 301) (A.map Frame.ao) fn target slots (cutS stack height) (ms) (ms.map Mark.av ++ [.agg [.int .i64 1, .int .i64 target, .int .i64 slot, .int .i64 height, .sl .fro (us.map Undo.av), .int .i64 tk, .int .i64 tn, .str tt, .sl .fro (avs ti), .sl .fro (ts.map .str)]]) ms.length (by simp [rowH]) (by simp [hN]) (by simp [hN]) (by simp) (by simp [Mark.av]) hA1 hA2 (by omega) (by omega) (by omega)) ?_
    refine AW.ret (hQ _ ⟨by simp [resP, a41_res, ARes.op, hupd, hN], [(R, ⟨5, false, (A ++ [⟨fn, target, slots, cutS stack height, ms⟩] : List Frame).map Frame.ao⟩)], N + 4000, [.hdr (R) 0 (A ++ [⟨fn, target, slots, cutS stack height, ms⟩] : List Frame).length, .agg [.int .i64 a, .int .i64 b, .str c, .sl .fro (avs d), .sl .fro (e.map .str)], .agg [.int .i64 (-1), .sl .fro []], .bool true, .bool true], ⟨R, Val.mk a b c d e, .inl rfl, by omega, rfl, by simp [Val.av, noneU, Undo.av, avs, oneOf]⟩, by omega, (by intro p hp; simp at hp; subst hp; first | exact .inl hH0 | exact .inr (by dsimp only; omega)), rfl, by simp, ?_⟩)
    simp only [resV, a41_res, List.map_cons, List.map_nil, List.map_append, List.length_append, List.length_cons, List.length_nil, Nat.zero_add, ARes.op]
    refine Fit.mk _ _ _ (by simp [hupd, hN, conv2, newEmp, convs_refl, convs, conv]) (by simp [hupd, hN, heapFit, newEmp, conv2s, conv2, convs_refl, convs, conv]) (by intro q hq; first | (simp at hq; done) | (simp at hq; omega) | (simp at hq; simp; omega))
theorem r_other (A : List Frame) (ms : List Mark) (fn pc : Int) (slots stack : List Val) (kind target slot height : Int) (us : List Undo) (tk tn : Int) (tt : ByteArray) (ti : List Val) (ts : List ByteArray) (a b : Int) (c : ByteArray) (d : List Val) (e : List ByteArray) (N R : Nat) (hRN : R < N) (H0 : List (Nat × Blk)) (hH0 : (mkH H0 R).isSome = true) (hkA : A.length < 12) (hml : ms.length < 12) (Q : AE → St → Prop) (hQ : ∀ s, retB a41_res H0 N (StepPost N R (.go (A ++ [⟨fn, pc, slots, stack, ms⟩]) (Val.mk a b c d e))) .ret s → Q .ret s) : AW Try.prog 146 rotherC (mkS [(0, .hdr R 0 (A.length + 1)), (3, .ptr N 0 0), (4, .sl .ext []), (5, .ptr (N + 2) 0 0), (6, .ptr (N + 3) 0 0), (7, .bool false), (8, .bool false), (9, .int .i64 A.length), (10, .ptr (N + 334) 0 0), (11, .ptr (N + 358) 0 0), (46, .int .i64 kind)] [(R, ⟨5, true, A.map Frame.ao ++ [.agg [.int .i64 fn, .int .i64 pc, .hdr (N + 300) 0 slots.length, .sl .fro (avs stack), .hdr (N + 301) 0 (ms.length + 1)]]⟩), (N + 300, ⟨5, false, avs slots⟩), (N + 301, ⟨10, false, ms.map Mark.av ++ [.agg [.int .i64 kind, .int .i64 target, .int .i64 slot, .int .i64 height, .sl .fro (us.map Undo.av), .int .i64 tk, .int .i64 tn, .str tt, .sl .fro (avs ti), .sl .fro (ts.map .str)]]⟩), (N, ⟨5, true, [.agg [.int .i64 a, .int .i64 b, .str c, .sl .fro (avs d), .sl .fro (e.map .str)]]⟩), (N + 2, ⟨5, true, [.agg [.int .i64 0, .int .i64 0, .str ⟨#[]⟩, .sl .ext [], .sl .ext []]]⟩), (N + 3, ⟨2, true, [.agg [.int .i64 0, .sl .ext []]]⟩), (N + 334, ⟨5, true, [.agg [.int .i64 fn, .int .i64 pc, .hdr (N + 300) 0 slots.length, .sl .fro (avs stack), .hdr (N + 301) 0 (ms.length + 1)]]⟩), (N + 358, ⟨10, true, [.agg [.int .i64 kind, .int .i64 target, .int .i64 slot, .int .i64 height, .sl .fro (us.map Undo.av), .int .i64 tk, .int .i64 tn, .str tt, .sl .fro (avs ti), .sl .fro (ts.map .str)]]⟩)] (N + 400)) Q := by
  have hN : (∀ q, (R = N + q) = False) ∧ (∀ q, (N + q = R) = False) ∧ (R = N) = False ∧ (N = R) = False ∧ (∀ q, (N + q < N) = False) ∧ (∀ q, R < N + q) ∧ R < N := by
    refine ⟨?_, ?_, ?_, ?_, ?_, ?_, ?_⟩ <;> first | exact eq_false (by omega) | exact fun q => eq_false (by omega) | exact fun q => by omega | omega
  have hA1 := ao_len A
  have hA2 := ao_shut A
  have he := elem_snoc Frame.ao A
  have hset := set_snoc Frame.ao A
  have htk := take_snoc Frame.ao A
  have heM := elem_snoc Mark.av ms
  have hsetM := set_snoc Mark.av ms
  have hsl := av_len slots
  have h2 : (0 : Int) ≤ A.length := by omega
  have h3 : (A.length : Int) < (A.length : Int) + 1 := by omega
  have h4 : A.length < A.length + 1 := by omega
  have hw' : IntKind.i64.wrap (ms.length : Int) = (ms.length : Int) := i64_in _ ⟨by omega, by omega⟩
  have h2' : (0 : Int) ≤ ms.length := by omega
  have h3' : (ms.length : Int) < (ms.length : Int) + 1 := by omega
  have h4' : ms.length < ms.length + 1 := by omega
  have h5' : (ms.length : Int) ≤ (ms.length : Int) + 1 := by omega
  have h6' : ms.length ≤ ms.length + 1 := by omega
  repeat refine AW.seq ?_
  refine AW.reg ?_
  have hF := And.intro (h2) (And.intro (h3) (And.intro (h4) (And.intro (hw') (And.intro (h2') (And.intro (h3') (And.intro (h4') (And.intro (h5') (And.intro (h6') (And.intro (he) (And.intro (hset) (And.intro (heM) (And.intro (hsetM) (And.intro (hsl) (hN))))))))))))))
  repeat (first | refine wD1 ?_ | refine wD2 ?_ | refine wE1 ?_ | refine wE2 ?_ | (refine wE3 ?_; intro _) | (refine wE4 ?_; intro _) | refine wN ?_ | ((with_reducible show evIs _ (_ :: _) _ _); first | refine wQ ?_ | refine wF ?_ | refine wG ?_ | refine wT ?_ | refine wM ?_ | refine wS ?_ | refine wP ?_ | refine wJ ?_ | refine wX ?_ | refine wY ?_))
  clear hF
  repeat refine evDone ?_
  try (show AW _ _ _ _ _)
  repeat refine AW.seq ?_
  refine AW.reg ?_
  have hF := And.intro (h2) (And.intro (h3) (And.intro (h4) (And.intro (hw') (And.intro (h2') (And.intro (h3') (And.intro (h4') (And.intro (h5') (And.intro (h6') (And.intro (he) (And.intro (hset) (And.intro (heM) (And.intro (hsetM) (And.intro (hsl) (hN))))))))))))))
  repeat (first | refine wD1 ?_ | refine wD2 ?_ | refine wE1 ?_ | refine wE2 ?_ | (refine wE3 ?_; intro _) | (refine wE4 ?_; intro _) | refine wN ?_ | ((with_reducible show evIs _ (_ :: _) _ _); first | refine wQ ?_ | refine wF ?_ | refine wG ?_ | refine wT ?_ | refine wM ?_ | refine wS ?_ | refine wP ?_ | refine wJ ?_ | refine wX ?_ | refine wY ?_))
  clear hF
  repeat refine evDone ?_
  try (show AW _ _ _ _ _)
  repeat refine AW.seq ?_
  refine AW.draw ?_
  have hF := hN
  repeat (first | refine wD1 ?_ | refine wD2 ?_ | refine wE1 ?_ | refine wE2 ?_ | (refine wE3 ?_; intro _) | (refine wE4 ?_; intro _) | refine wN ?_ | ((with_reducible show evIs _ (_ :: _) _ _); first | refine wQ ?_ | refine wF ?_ | refine wG ?_ | refine wT ?_ | refine wM ?_ | refine wS ?_ | refine wP ?_ | refine wJ ?_ | refine wX ?_ | refine wY ?_))
  clear hF
  repeat refine evDone ?_
  try (show AW _ _ _ _ _)
  have hF := hN
  refine wC (hA := f43) ?_
  clear hF
  have hF := hN
  repeat (first | refine wD1 ?_ | refine wD2 ?_ | refine wE1 ?_ | refine wE2 ?_ | (refine wE3 ?_; intro _) | (refine wE4 ?_; intro _) | refine wN ?_ | ((with_reducible show evIs _ (_ :: _) _ _); first | refine wQ ?_ | refine wF ?_ | refine wG ?_ | refine wT ?_ | refine wM ?_ | refine wS ?_ | refine wP ?_ | refine wJ ?_ | refine wX ?_ | refine wY ?_))
  clear hF
  repeat refine evDone ?_
  try (show AW _ _ _ _ _)
  refine AW.fit (st' := mkS [(4, .hdr R 0 (A.length + 1)), (5, .ptr (N + 2) 0 0), (6, .ptr (N + 3) 0 0), (7, .bool false), (8, .bool false)] [(R, ⟨5, true, A.map Frame.ao ++ [.agg [.int .i64 fn, .int .i64 pc, .hdr (N + 300) 0 slots.length, .sl .fro (avs stack), .hdr (N + 301) 0 ms.length]]⟩), (N + 300, ⟨5, false, avs slots⟩), (N + 301, ⟨10, false, ms.map Mark.av ++ [.agg [.int .i64 kind, .int .i64 target, .int .i64 slot, .int .i64 height, .sl .fro (us.map Undo.av), .int .i64 tk, .int .i64 tn, .str tt, .sl .fro (avs ti), .sl .fro (ts.map .str)]]⟩), (N + 2, ⟨5, true, [.agg [.int .i64 a, .int .i64 b, .str c, .sl .fro (avs d), .sl .fro (e.map .str)]]⟩), (N + 3, ⟨2, true, [.agg [.int .i64 (-1), .sl .fro []]]⟩)] (N + 3000)) ?_ ?_
  · refine Fit.mk _ _ _ (by simp [hN, conv2, newEmp, convs_refl, convs, conv]) (by simp [hN, heapFit, newEmp, conv2s, conv2, convs_refl, convs, conv]) (by intro q hq; first | (simp at hq; done) | (simp at hq; omega) | (simp at hq; simp; omega))
  rw [mkS_eq]
  refine AW.fit (shutLast R (N + 300) (N + 301) (A.map Frame.ao) fn pc slots stack (ms) (ms.map Mark.av ++ [.agg [.int .i64 kind, .int .i64 target, .int .i64 slot, .int .i64 height, .sl .fro (us.map Undo.av), .int .i64 tk, .int .i64 tn, .str tt, .sl .fro (avs ti), .sl .fro (ts.map .str)]]) ms.length (by simp [rowH]) (by simp [hN]) (by simp [hN]) (by simp) (by simp [Mark.av]) hA1 hA2 (by omega) (by omega) (by omega)) ?_
  refine AW.ret (hQ _ ⟨by simp [resP, a41_res, ARes.op, hupd, hN], [(R, ⟨5, false, (A ++ [⟨fn, pc, slots, stack, ms⟩] : List Frame).map Frame.ao⟩)], N + 4000, [.hdr (R) 0 (A ++ [⟨fn, pc, slots, stack, ms⟩] : List Frame).length, .agg [.int .i64 a, .int .i64 b, .str c, .sl .fro (avs d), .sl .fro (e.map .str)], .agg [.int .i64 (-1), .sl .fro []], .bool false, .bool false], ⟨R, .inl rfl, by omega, rfl, by simp [Val.av, noneU, Undo.av, avs, oneOf]⟩, by omega, (by intro p hp; simp at hp; subst hp; first | exact .inl hH0 | exact .inr (by dsimp only; omega)), rfl, by simp, ?_⟩)
  simp only [resV, a41_res, List.map_cons, List.map_nil, List.map_append, List.length_append, List.length_cons, List.length_nil, Nat.zero_add, ARes.op]
  refine Fit.mk _ _ _ (by simp [hupd, hN, conv2, newEmp, convs_refl, convs, conv]) (by simp [hupd, hN, heapFit, newEmp, conv2s, conv2, convs_refl, convs, conv]) (by intro q hq; first | (simp at hq; done) | (simp at hq; omega) | (simp at hq; simp; omega))
end Go.Proofs.Ytafkaofaioleiaa

set_option linter.unusedSimpArgs false
set_option linter.unusedVariables false
set_option maxHeartbeats 16000000
namespace Go.Proofs.Ytafkaofaioleiaa
open Go Go.Amb Go.IntWalk

def rnextC : ACode := (.seq a41_r23 (.seq a41_r24 (.seq (.seq a41_r25 (.cond (.t 124) (.seq a41_r26 .ret) .skip)) (.seq a41_r27 .ret))))
theorem undoAv (w : Undo) : w.av = .agg [.int .i64 w.fn, .sl .fro (avs w.args)] := rfl
theorem r_next_end (A : List Frame) (ms : List Mark) (fn pc : Int) (slots stack stk : List Val) (target slot height : Int) (tk tn : Int) (tt : ByteArray) (ti : List Val) (ts : List ByteArray) (a b : Int) (c : ByteArray) (d : List Val) (e : List ByteArray) (N R : Nat) (hRN : R < N) (H0 : List (Nat × Blk)) (hH0 : (mkH H0 R).isSome = true) (hkA : A.length < 12) (hml : ms.length < 12) (Q : AE → St → Prop) (hok : oks (A ++ [⟨fn, pc, slots, stk, ms ++ [⟨3, target, slot, height, [], tk, tn, tt, ti, ts⟩]⟩])) (hQ : ∀ s, retB a41_res H0 N (StepPost N R (.go (A ++ [⟨fn, pc, slots, stk, ms⟩]) (Val.mk tk tn tt ti ts))) .ret s → Q .ret s) : AW Try.prog 146 rnextC (mkS [(0, .hdr R 0 (A.length + 1)), (3, .ptr N 0 0), (4, .sl .ext []), (5, .ptr (N + 2) 0 0), (6, .ptr (N + 3) 0 0), (7, .bool false), (8, .bool false), (9, .int .i64 A.length), (10, .ptr (N + 334) 0 0)] [(R, ⟨5, true, A.map Frame.ao ++ [.agg [.int .i64 fn, .int .i64 pc, .hdr (N + 300) 0 slots.length, .sl .fro (avs stack), .hdr (N + 301) 0 (ms.length + 1)]]⟩), (N + 300, ⟨5, false, avs slots⟩), (N + 301, ⟨10, false, ms.map Mark.av ++ [.agg [.int .i64 3, .int .i64 target, .int .i64 slot, .int .i64 height, .sl .fro ([]), .int .i64 tk, .int .i64 tn, .str tt, .sl .fro (avs ti), .sl .fro (ts.map .str)]]⟩), (N, ⟨5, true, [.agg [.int .i64 a, .int .i64 b, .str c, .sl .fro (avs d), .sl .fro (e.map .str)]]⟩), (N + 2, ⟨5, true, [.agg [.int .i64 0, .int .i64 0, .str ⟨#[]⟩, .sl .ext [], .sl .ext []]]⟩), (N + 3, ⟨2, true, [.agg [.int .i64 0, .sl .ext []]]⟩), (N + 334, ⟨5, true, [.agg [.int .i64 fn, .int .i64 pc, .hdr (N + 300) 0 slots.length, .sl .fro (avs stk), .hdr (N + 301) 0 (ms.length + 1)]]⟩)] (N + 500)) Q := by
  have hN : (∀ q, (R = N + q) = False) ∧ (∀ q, (N + q = R) = False) ∧ (R = N) = False ∧ (N = R) = False ∧ (∀ q, (N + q < N) = False) ∧ (∀ q, R < N + q) ∧ R < N ∧ (∀ q, (N = N + 1500 + q) = False) ∧ (∀ q, (N + 1500 + q = N) = False) ∧ (∀ q, (N = N + 700 + q) = False) ∧ (∀ q, (N + 700 + q = N) = False) := by
    refine ⟨?_, ?_, ?_, ?_, ?_, ?_, ?_, ?_, ?_, ?_, ?_⟩ <;> first | exact eq_false (by omega) | exact fun q => eq_false (by omega) | exact fun q => by omega | omega
  have hA1 := ao_len A
  have hA2 := ao_shut A
  have he := elem_snoc Frame.ao A
  have hset := set_snoc Frame.ao A
  have htk := take_snoc Frame.ao A
  have heM := elem_snoc Mark.av ms
  have hsetM := set_snoc Mark.av ms
  have hsl := av_len slots
  have h2 : (0 : Int) ≤ A.length := by omega
  have h3 : (A.length : Int) < (A.length : Int) + 1 := by omega
  have h4 : A.length < A.length + 1 := by omega
  have hw' : IntKind.i64.wrap (ms.length : Int) = (ms.length : Int) := i64_in _ ⟨by omega, by omega⟩
  have h2' : (0 : Int) ≤ ms.length := by omega
  have h3' : (ms.length : Int) < (ms.length : Int) + 1 := by omega
  have h4' : ms.length < ms.length + 1 := by omega
  have h5' : (ms.length : Int) ≤ (ms.length : Int) + 1 := by omega
  have h6' : ms.length ≤ ms.length + 1 := by omega
  have htM := take_snoc Mark.av ms
  have h18 := f18b (N + 1500) (A ++ [⟨fn, pc, slots, stk, ms ++ [⟨3, target, slot, height, [], tk, tn, tt, ti, ts⟩]⟩]) hok (by simp; omega)
  rw [nextF_end A _ ms (⟨3, target, slot, height, [], tk, tn, tt, ti, ts⟩) rfl rfl rfl] at h18
  repeat refine AW.seq ?_
  refine AW.reg ?_
  have hF := And.intro (h2) (And.intro (h3) (And.intro (h4) (And.intro (hw') (And.intro (h2') (And.intro (h3') (And.intro (h4') (And.intro (h5') (And.intro (h6') (And.intro (he) (And.intro (hset) (And.intro (heM) (And.intro (hsetM) (And.intro (hsl) (hN))))))))))))))
  repeat (first | refine wD1 ?_ | refine wD2 ?_ | refine wE1 ?_ | refine wE2 ?_ | (refine wE3 ?_; intro _) | (refine wE4 ?_; intro _) | refine wN ?_ | ((with_reducible show evIs _ (_ :: _) _ _); first | refine wQ ?_ | refine wF ?_ | refine wG ?_ | refine wT ?_ | refine wM ?_ | refine wS ?_ | refine wP ?_ | refine wJ ?_ | refine wX ?_ | refine wY ?_))
  clear hF
  repeat refine evDone ?_
  try (show AW _ _ _ _ _)
  refine AW.fit (st' := mkS [(0, .hdr R 0 (A.length + 1)), (3, .ptr N 0 0), (4, .sl .ext []), (5, .ptr (N + 2) 0 0), (6, .ptr (N + 3) 0 0), (7, .bool false), (8, .bool false)] [(R, ⟨5, true, A.map Frame.ao ++ [.agg [.int .i64 fn, .int .i64 pc, .hdr (N + 300) 0 slots.length, .sl .fro (avs stk), .hdr (N + 301) 0 (ms.length + 1)]]⟩), (N + 300, ⟨5, false, avs slots⟩), (N + 301, ⟨10, false, ms.map Mark.av ++ [.agg [.int .i64 3, .int .i64 target, .int .i64 slot, .int .i64 height, .sl .fro ([]), .int .i64 tk, .int .i64 tn, .str tt, .sl .fro (avs ti), .sl .fro (ts.map .str)]]⟩), (N, ⟨5, true, [.agg [.int .i64 a, .int .i64 b, .str c, .sl .fro (avs d), .sl .fro (e.map .str)]]⟩), (N + 2, ⟨5, true, [.agg [.int .i64 0, .int .i64 0, .str ⟨#[]⟩, .sl .ext [], .sl .ext []]]⟩), (N + 3, ⟨2, true, [.agg [.int .i64 0, .sl .ext []]]⟩)] (N + 600)) ?_ ?_
  · refine Fit.mk _ _ _ (by simp [hN, conv2, newEmp, convs_refl, convs, conv]) (by simp [hN, heapFit, newEmp, conv2s, conv2, convs_refl, convs, conv]) (by intro q hq; first | (simp at hq; done) | (simp at hq; omega) | (simp at hq; simp; omega))
  rw [mkS_eq]
  refine AW.fit (shutLast R (N + 300) (N + 301) (A.map Frame.ao) fn pc slots stk (ms ++ [⟨3, target, slot, height, [], tk, tn, tt, ti, ts⟩]) (ms.map Mark.av ++ [.agg [.int .i64 3, .int .i64 target, .int .i64 slot, .int .i64 height, .sl .fro ([]), .int .i64 tk, .int .i64 tn, .str tt, .sl .fro (avs ti), .sl .fro (ts.map .str)]]) (ms.length + 1) (by simp [rowH]) (by simp [hN]) (by simp [hN]) (by simp) (by simp [Mark.av, htM, Undo.av]) hA1 hA2 (by omega) (by omega) (by omega)) ?_
  refine AW.fit (Fit.freeze (d := 0) (r := R) (off := 0) (len := A.length + 1) (b := ⟨5, false, A.map Frame.ao ++ [Frame.ao ⟨fn, pc, slots, stk, ms ++ [⟨3, target, slot, height, [], tk, tn, tt, ti, ts⟩]⟩]⟩) (by simp) (by simp [hupd, hN]) rfl (by simp)) ?_
  refine AW.fit (st' := mkS [(0, .sl .fro ((A ++ [⟨fn, pc, slots, stk, ms ++ [⟨3, target, slot, height, [], tk, tn, tt, ti, ts⟩]⟩] : List Frame).map Frame.av)), (3, .ptr N 0 0), (4, .sl .ext []), (5, .ptr (N + 2) 0 0), (6, .ptr (N + 3) 0 0), (7, .bool false), (8, .bool false)] [(N, ⟨5, true, [.agg [.int .i64 a, .int .i64 b, .str c, .sl .fro (avs d), .sl .fro (e.map .str)]]⟩), (N + 2, ⟨5, true, [.agg [.int .i64 0, .int .i64 0, .str ⟨#[]⟩, .sl .ext [], .sl .ext []]]⟩), (N + 3, ⟨2, true, [.agg [.int .i64 0, .sl .ext []]]⟩)] (N + 700)) ?_ ?_
  · refine Fit.mk _ _ _ (by simp [hupd, hN, htk, conv2, newEmp, convs_refl, convs, conv]) (by simp [hupd, hN, htk, heapFit, newEmp, conv2s, conv2, convs_refl, convs, conv]) (by intro q hq; first | (simp at hq; done) | (simp at hq; omega) | (simp at hq; simp; omega))
  generalize hfs : (A ++ [⟨fn, pc, slots, stk, ms ++ [⟨3, target, slot, height, [], tk, tn, tt, ti, ts⟩]⟩] : List Frame).map Frame.av = es
  rw [hfs] at h18
  clear hfs hok
  delta NextPost at h18
  simp only [noneU, zeroV, Undo.av, Val.av, Mark.th, avs, List.map_nil, List.length_append, List.length_cons, List.length_nil, Nat.zero_add] at h18
  repeat refine AW.seq ?_
  refine AW.reg ?_
  have hF := hN
  repeat (first | refine wD1 ?_ | refine wD2 ?_ | refine wE1 ?_ | refine wE2 ?_ | (refine wE3 ?_; intro _) | (refine wE4 ?_; intro _) | refine wN ?_ | ((with_reducible show evIs _ (_ :: _) _ _); first | refine wQ ?_ | refine wF ?_ | refine wG ?_ | refine wT ?_ | refine wM ?_ | refine wS ?_ | refine wP ?_ | refine wJ ?_ | refine wX ?_ | refine wY ?_))
  clear hF
  repeat refine evDone ?_
  try (show AW _ _ _ _ _)
  have hF := hN
  refine wL (hA := h18) ?_
  clear hF
  rintro _ _ _ ⟨rfl, rfl, rfl⟩
  have hF := hN
  repeat (first | refine wD1 ?_ | refine wD2 ?_ | refine wE1 ?_ | refine wE2 ?_ | (refine wE3 ?_; intro _) | (refine wE4 ?_; intro _) | refine wN ?_ | ((with_reducible show evIs _ (_ :: _) _ _); first | refine wQ ?_ | refine wF ?_ | refine wG ?_ | refine wT ?_ | refine wM ?_ | refine wS ?_ | refine wP ?_ | refine wJ ?_ | refine wX ?_ | refine wY ?_))
  clear hF
  repeat refine evDone ?_
  try (show AW _ _ _ _ _)
  repeat refine AW.seq ?_
  refine AW.reg ?_
  have hF := hN
  repeat (first | refine wD1 ?_ | refine wD2 ?_ | refine wE1 ?_ | refine wE2 ?_ | (refine wE3 ?_; intro _) | (refine wE4 ?_; intro _) | refine wN ?_ | ((with_reducible show evIs _ (_ :: _) _ _); first | refine wQ ?_ | refine wF ?_ | refine wG ?_ | refine wT ?_ | refine wM ?_ | refine wS ?_ | refine wP ?_ | refine wJ ?_ | refine wX ?_ | refine wY ?_))
  clear hF
  repeat refine evDone ?_
  try (show AW _ _ _ _ _)
  repeat refine AW.seq ?_
  refine AW.condT (by simp []) (by simp []) ?_
  repeat refine AW.seq ?_
  refine AW.draw ?_
  have hF := hN
  repeat (first | refine wD1 ?_ | refine wD2 ?_ | refine wE1 ?_ | refine wE2 ?_ | (refine wE3 ?_; intro _) | (refine wE4 ?_; intro _) | refine wN ?_ | ((with_reducible show evIs _ (_ :: _) _ _); first | refine wQ ?_ | refine wF ?_ | refine wG ?_ | refine wT ?_ | refine wM ?_ | refine wS ?_ | refine wP ?_ | refine wJ ?_ | refine wX ?_ | refine wY ?_))
  clear hF
  repeat refine evDone ?_
  try (show AW _ _ _ _ _)
  have hF := hN
  refine wC (hA := f43) ?_
  clear hF
  have hF := hN
  repeat (first | refine wD1 ?_ | refine wD2 ?_ | refine wE1 ?_ | refine wE2 ?_ | (refine wE3 ?_; intro _) | (refine wE4 ?_; intro _) | refine wN ?_ | ((with_reducible show evIs _ (_ :: _) _ _); first | refine wQ ?_ | refine wF ?_ | refine wG ?_ | refine wT ?_ | refine wM ?_ | refine wS ?_ | refine wP ?_ | refine wJ ?_ | refine wX ?_ | refine wY ?_))
  clear hF
  repeat refine evDone ?_
  try (show AW _ _ _ _ _)
  refine AW.ret (hQ _ ⟨by simp [resP, a41_res, ARes.op, hupd, hN], [(N + 1500 + 5, ⟨5, false, (A ++ [⟨fn, pc, slots, stk, ms⟩] : List Frame).map Frame.ao⟩)], N + 4000, [.hdr (N + 1500 + 5) 0 (A ++ [⟨fn, pc, slots, stk, ms⟩] : List Frame).length, .agg [.int .i64 tk, .int .i64 tn, .str tt, .sl .fro (avs ti), .sl .fro (ts.map .str)], .agg [.int .i64 (-1), .sl .fro []], .bool false, .bool false], ⟨N + 1500 + 5, .inr (by omega), by omega, rfl, by simp [Val.av, noneU, Undo.av, avs, oneOf]⟩, by omega, (by intro p hp; simp at hp; subst hp; first | exact .inl hH0 | exact .inr (by dsimp only; omega)), rfl, by simp, ?_⟩)
  simp only [resV, a41_res, List.map_cons, List.map_nil, List.map_append, List.length_append, List.length_cons, List.length_nil, Nat.zero_add, ARes.op]
  refine Fit.mk _ _ _ (by simp [hupd, hN, conv2, newEmp, convs_refl, convs, conv]) (by simp [hupd, hN, heapFit, newEmp, conv2s, conv2, convs_refl, convs, conv]) (by intro q hq; first | (simp at hq; done) | (simp at hq; omega) | (simp at hq; simp; omega))
theorem r_next_undo (A : List Frame) (ms : List Mark) (fn pc : Int) (slots stack stk : List Val) (target slot height : Int) (tk tn : Int) (tt : ByteArray) (ti : List Val) (ts : List ByteArray) (a b : Int) (c : ByteArray) (d : List Val) (e : List ByteArray) (N R : Nat) (hRN : R < N) (H0 : List (Nat × Blk)) (hH0 : (mkH H0 R).isSome = true) (hkA : A.length < 12) (hml : ms.length < 12) (Q : AE → St → Prop) (us : List Undo) (wf : Int) (wa : List Val) (hok : oks (A ++ [⟨fn, pc, slots, stk, ms ++ [⟨3, target, slot, height, us ++ [⟨wf, wa⟩], tk, tn, tt, ti, ts⟩]⟩])) (hQ : ∀ s, retB a41_res H0 N (StepPost N R (.done (A ++ [⟨fn, pc, slots, stk, ms ++ [⟨3, target, slot, height, us, tk, tn, tt, ti, ts⟩]⟩]) ⟨wf, wa⟩ true)) .ret s → Q .ret s) : AW Try.prog 146 rnextC (mkS [(0, .hdr R 0 (A.length + 1)), (3, .ptr N 0 0), (4, .sl .ext []), (5, .ptr (N + 2) 0 0), (6, .ptr (N + 3) 0 0), (7, .bool false), (8, .bool false), (9, .int .i64 A.length), (10, .ptr (N + 334) 0 0)] [(R, ⟨5, true, A.map Frame.ao ++ [.agg [.int .i64 fn, .int .i64 pc, .hdr (N + 300) 0 slots.length, .sl .fro (avs stack), .hdr (N + 301) 0 (ms.length + 1)]]⟩), (N + 300, ⟨5, false, avs slots⟩), (N + 301, ⟨10, false, ms.map Mark.av ++ [.agg [.int .i64 3, .int .i64 target, .int .i64 slot, .int .i64 height, .sl .fro (us.map Undo.av ++ [.agg [.int .i64 wf, .sl .fro (avs wa)]]), .int .i64 tk, .int .i64 tn, .str tt, .sl .fro (avs ti), .sl .fro (ts.map .str)]]⟩), (N, ⟨5, true, [.agg [.int .i64 a, .int .i64 b, .str c, .sl .fro (avs d), .sl .fro (e.map .str)]]⟩), (N + 2, ⟨5, true, [.agg [.int .i64 0, .int .i64 0, .str ⟨#[]⟩, .sl .ext [], .sl .ext []]]⟩), (N + 3, ⟨2, true, [.agg [.int .i64 0, .sl .ext []]]⟩), (N + 334, ⟨5, true, [.agg [.int .i64 fn, .int .i64 pc, .hdr (N + 300) 0 slots.length, .sl .fro (avs stk), .hdr (N + 301) 0 (ms.length + 1)]]⟩)] (N + 500)) Q := by
  have hN : (∀ q, (R = N + q) = False) ∧ (∀ q, (N + q = R) = False) ∧ (R = N) = False ∧ (N = R) = False ∧ (∀ q, (N + q < N) = False) ∧ (∀ q, R < N + q) ∧ R < N ∧ (∀ q, (N = N + 1500 + q) = False) ∧ (∀ q, (N + 1500 + q = N) = False) ∧ (∀ q, (N = N + 700 + q) = False) ∧ (∀ q, (N + 700 + q = N) = False) := by
    refine ⟨?_, ?_, ?_, ?_, ?_, ?_, ?_, ?_, ?_, ?_, ?_⟩ <;> first | exact eq_false (by omega) | exact fun q => eq_false (by omega) | exact fun q => by omega | omega
  have hA1 := ao_len A
  have hA2 := ao_shut A
  have he := elem_snoc Frame.ao A
  have hset := set_snoc Frame.ao A
  have htk := take_snoc Frame.ao A
  have heM := elem_snoc Mark.av ms
  have hsetM := set_snoc Mark.av ms
  have hsl := av_len slots
  have h2 : (0 : Int) ≤ A.length := by omega
  have h3 : (A.length : Int) < (A.length : Int) + 1 := by omega
  have h4 : A.length < A.length + 1 := by omega
  have hw' : IntKind.i64.wrap (ms.length : Int) = (ms.length : Int) := i64_in _ ⟨by omega, by omega⟩
  have h2' : (0 : Int) ≤ ms.length := by omega
  have h3' : (ms.length : Int) < (ms.length : Int) + 1 := by omega
  have h4' : ms.length < ms.length + 1 := by omega
  have h5' : (ms.length : Int) ≤ (ms.length : Int) + 1 := by omega
  have h6' : ms.length ≤ ms.length + 1 := by omega
  have htM := take_snoc Mark.av ms
  have h18 := f18b (N + 1500) (A ++ [⟨fn, pc, slots, stk, ms ++ [⟨3, target, slot, height, us ++ [⟨wf, wa⟩], tk, tn, tt, ti, ts⟩]⟩]) hok (by simp; omega)
  rw [nextF_undo A _ ms (⟨3, target, slot, height, us ++ [⟨wf, wa⟩], tk, tn, tt, ti, ts⟩) us ⟨wf, wa⟩ rfl rfl rfl] at h18
  repeat refine AW.seq ?_
  refine AW.reg ?_
  have hF := And.intro (h2) (And.intro (h3) (And.intro (h4) (And.intro (hw') (And.intro (h2') (And.intro (h3') (And.intro (h4') (And.intro (h5') (And.intro (h6') (And.intro (he) (And.intro (hset) (And.intro (heM) (And.intro (hsetM) (And.intro (hsl) (hN))))))))))))))
  repeat (first | refine wD1 ?_ | refine wD2 ?_ | refine wE1 ?_ | refine wE2 ?_ | (refine wE3 ?_; intro _) | (refine wE4 ?_; intro _) | refine wN ?_ | ((with_reducible show evIs _ (_ :: _) _ _); first | refine wQ ?_ | refine wF ?_ | refine wG ?_ | refine wT ?_ | refine wM ?_ | refine wS ?_ | refine wP ?_ | refine wJ ?_ | refine wX ?_ | refine wY ?_))
  clear hF
  repeat refine evDone ?_
  try (show AW _ _ _ _ _)
  refine AW.fit (st' := mkS [(0, .hdr R 0 (A.length + 1)), (3, .ptr N 0 0), (4, .sl .ext []), (5, .ptr (N + 2) 0 0), (6, .ptr (N + 3) 0 0), (7, .bool false), (8, .bool false)] [(R, ⟨5, true, A.map Frame.ao ++ [.agg [.int .i64 fn, .int .i64 pc, .hdr (N + 300) 0 slots.length, .sl .fro (avs stk), .hdr (N + 301) 0 (ms.length + 1)]]⟩), (N + 300, ⟨5, false, avs slots⟩), (N + 301, ⟨10, false, ms.map Mark.av ++ [.agg [.int .i64 3, .int .i64 target, .int .i64 slot, .int .i64 height, .sl .fro (us.map Undo.av ++ [.agg [.int .i64 wf, .sl .fro (avs wa)]]), .int .i64 tk, .int .i64 tn, .str tt, .sl .fro (avs ti), .sl .fro (ts.map .str)]]⟩), (N, ⟨5, true, [.agg [.int .i64 a, .int .i64 b, .str c, .sl .fro (avs d), .sl .fro (e.map .str)]]⟩), (N + 2, ⟨5, true, [.agg [.int .i64 0, .int .i64 0, .str ⟨#[]⟩, .sl .ext [], .sl .ext []]]⟩), (N + 3, ⟨2, true, [.agg [.int .i64 0, .sl .ext []]]⟩)] (N + 600)) ?_ ?_
  · refine Fit.mk _ _ _ (by simp [hN, conv2, newEmp, convs_refl, convs, conv]) (by simp [hN, heapFit, newEmp, conv2s, conv2, convs_refl, convs, conv]) (by intro q hq; first | (simp at hq; done) | (simp at hq; omega) | (simp at hq; simp; omega))
  rw [mkS_eq]
  refine AW.fit (shutLast R (N + 300) (N + 301) (A.map Frame.ao) fn pc slots stk (ms ++ [⟨3, target, slot, height, us ++ [⟨wf, wa⟩], tk, tn, tt, ti, ts⟩]) (ms.map Mark.av ++ [.agg [.int .i64 3, .int .i64 target, .int .i64 slot, .int .i64 height, .sl .fro (us.map Undo.av ++ [.agg [.int .i64 wf, .sl .fro (avs wa)]]), .int .i64 tk, .int .i64 tn, .str tt, .sl .fro (avs ti), .sl .fro (ts.map .str)]]) (ms.length + 1) (by simp [rowH]) (by simp [hN]) (by simp [hN]) (by simp) (by simp [Mark.av, htM, Undo.av]) hA1 hA2 (by omega) (by omega) (by omega)) ?_
  refine AW.fit (Fit.freeze (d := 0) (r := R) (off := 0) (len := A.length + 1) (b := ⟨5, false, A.map Frame.ao ++ [Frame.ao ⟨fn, pc, slots, stk, ms ++ [⟨3, target, slot, height, us ++ [⟨wf, wa⟩], tk, tn, tt, ti, ts⟩]⟩]⟩) (by simp) (by simp [hupd, hN]) rfl (by simp)) ?_
  refine AW.fit (st' := mkS [(0, .sl .fro ((A ++ [⟨fn, pc, slots, stk, ms ++ [⟨3, target, slot, height, us ++ [⟨wf, wa⟩], tk, tn, tt, ti, ts⟩]⟩] : List Frame).map Frame.av)), (3, .ptr N 0 0), (4, .sl .ext []), (5, .ptr (N + 2) 0 0), (6, .ptr (N + 3) 0 0), (7, .bool false), (8, .bool false)] [(N, ⟨5, true, [.agg [.int .i64 a, .int .i64 b, .str c, .sl .fro (avs d), .sl .fro (e.map .str)]]⟩), (N + 2, ⟨5, true, [.agg [.int .i64 0, .int .i64 0, .str ⟨#[]⟩, .sl .ext [], .sl .ext []]]⟩), (N + 3, ⟨2, true, [.agg [.int .i64 0, .sl .ext []]]⟩)] (N + 700)) ?_ ?_
  · refine Fit.mk _ _ _ (by simp [hupd, hN, htk, conv2, newEmp, convs_refl, convs, conv]) (by simp [hupd, hN, htk, heapFit, newEmp, conv2s, conv2, convs_refl, convs, conv]) (by intro q hq; first | (simp at hq; done) | (simp at hq; omega) | (simp at hq; simp; omega))
  generalize hfs : (A ++ [⟨fn, pc, slots, stk, ms ++ [⟨3, target, slot, height, us ++ [⟨wf, wa⟩], tk, tn, tt, ti, ts⟩]⟩] : List Frame).map Frame.av = es
  rw [hfs] at h18
  clear hfs hok
  delta NextPost at h18
  simp only [noneU, zeroV, Undo.av, Val.av, Mark.th, avs, List.map_nil, List.length_append, List.length_cons, List.length_nil, Nat.zero_add] at h18
  repeat refine AW.seq ?_
  refine AW.reg ?_
  have hF := hN
  repeat (first | refine wD1 ?_ | refine wD2 ?_ | refine wE1 ?_ | refine wE2 ?_ | (refine wE3 ?_; intro _) | (refine wE4 ?_; intro _) | refine wN ?_ | ((with_reducible show evIs _ (_ :: _) _ _); first | refine wQ ?_ | refine wF ?_ | refine wG ?_ | refine wT ?_ | refine wM ?_ | refine wS ?_ | refine wP ?_ | refine wJ ?_ | refine wX ?_ | refine wY ?_))
  clear hF
  repeat refine evDone ?_
  try (show AW _ _ _ _ _)
  have hF := hN
  refine wL (hA := h18) ?_
  clear hF
  rintro _ _ _ ⟨rfl, rfl, rfl⟩
  have hF := hN
  repeat (first | refine wD1 ?_ | refine wD2 ?_ | refine wE1 ?_ | refine wE2 ?_ | (refine wE3 ?_; intro _) | (refine wE4 ?_; intro _) | refine wN ?_ | ((with_reducible show evIs _ (_ :: _) _ _); first | refine wQ ?_ | refine wF ?_ | refine wG ?_ | refine wT ?_ | refine wM ?_ | refine wS ?_ | refine wP ?_ | refine wJ ?_ | refine wX ?_ | refine wY ?_))
  clear hF
  repeat refine evDone ?_
  try (show AW _ _ _ _ _)
  repeat refine AW.seq ?_
  refine AW.reg ?_
  have hF := hN
  repeat (first | refine wD1 ?_ | refine wD2 ?_ | refine wE1 ?_ | refine wE2 ?_ | (refine wE3 ?_; intro _) | (refine wE4 ?_; intro _) | refine wN ?_ | ((with_reducible show evIs _ (_ :: _) _ _); first | refine wQ ?_ | refine wF ?_ | refine wG ?_ | refine wT ?_ | refine wM ?_ | refine wS ?_ | refine wP ?_ | refine wJ ?_ | refine wX ?_ | refine wY ?_))
  clear hF
  repeat refine evDone ?_
  try (show AW _ _ _ _ _)
  repeat refine AW.seq ?_
  refine AW.condF (by simp []) (by simp []) ?_
  refine AW.skip ?_
  show AW _ _ _ _ _
  repeat refine AW.seq ?_
  refine AW.draw ?_
  have hF := hN
  repeat (first | refine wD1 ?_ | refine wD2 ?_ | refine wE1 ?_ | refine wE2 ?_ | (refine wE3 ?_; intro _) | (refine wE4 ?_; intro _) | refine wN ?_ | ((with_reducible show evIs _ (_ :: _) _ _); first | refine wQ ?_ | refine wF ?_ | refine wG ?_ | refine wT ?_ | refine wM ?_ | refine wS ?_ | refine wP ?_ | refine wJ ?_ | refine wX ?_ | refine wY ?_))
  clear hF
  repeat refine evDone ?_
  try (show AW _ _ _ _ _)
  refine AW.ret (hQ _ ⟨by simp [resP, a41_res, ARes.op, hupd, hN], [(N + 1500 + 5, ⟨5, false, (A ++ [⟨fn, pc, slots, stk, ms ++ [⟨3, target, slot, height, us, tk, tn, tt, ti, ts⟩]⟩] : List Frame).map Frame.ao⟩)], N + 4000, [.hdr (N + 1500 + 5) 0 (A ++ [⟨fn, pc, slots, stk, ms ++ [⟨3, target, slot, height, us, tk, tn, tt, ti, ts⟩]⟩] : List Frame).length, .agg [.int .i64 a, .int .i64 b, .str c, .sl .fro (avs d), .sl .fro (e.map .str)], .agg [.int .i64 wf, .sl .fro (avs wa)], .bool true, .bool true], ⟨N + 1500 + 5, Val.mk a b c d e, .inr (by omega), by omega, rfl, by simp [Val.av, noneU, Undo.av, avs, oneOf]⟩, by omega, (by intro p hp; simp at hp; subst hp; first | exact .inl hH0 | exact .inr (by dsimp only; omega)), rfl, by simp, ?_⟩)
  simp only [resV, a41_res, List.map_cons, List.map_nil, List.map_append, List.length_append, List.length_cons, List.length_nil, Nat.zero_add, ARes.op]
  refine Fit.mk _ _ _ (by simp [hupd, hN, conv2, newEmp, convs_refl, convs, conv]) (by simp [hupd, hN, heapFit, newEmp, conv2s, conv2, convs_refl, convs, conv]) (by intro q hq; first | (simp at hq; done) | (simp at hq; omega) | (simp at hq; simp; omega))
theorem r_saga2 (A : List Frame) (ms : List Mark) (fn pc : Int) (slots stack : List Val) (target slot height : Int) (us : List Undo) (tk tn : Int) (tt : ByteArray) (ti : List Val) (ts : List ByteArray) (a b : Int) (c : ByteArray) (d : List Val) (e : List ByteArray) (N R : Nat) (hRN : R < N) (H0 : List (Nat × Blk)) (hH0 : (mkH H0 R).isSome = true) (hkA : A.length < 12) (hml : ms.length < 12) (Q : AE → St → Prop) (hC : AW Try.prog 146 rnextC (mkS [(0, .hdr R 0 (A.length + 1)), (3, .ptr N 0 0), (4, .sl .ext []), (5, .ptr (N + 2) 0 0), (6, .ptr (N + 3) 0 0), (7, .bool false), (8, .bool false), (9, .int .i64 A.length), (10, .ptr (N + 334) 0 0)] [(R, ⟨5, true, A.map Frame.ao ++ [.agg [.int .i64 fn, .int .i64 pc, .hdr (N + 300) 0 slots.length, .sl .fro (avs stack), .hdr (N + 301) 0 (ms.length + 1)]]⟩), (N + 300, ⟨5, false, avs slots⟩), (N + 301, ⟨10, false, ms.map Mark.av ++ [.agg [.int .i64 3, .int .i64 target, .int .i64 slot, .int .i64 height, .sl .fro (us.map Undo.av), .int .i64 a, .int .i64 b, .str c, .sl .fro (avs d), .sl .fro (e.map .str)]]⟩), (N, ⟨5, true, [.agg [.int .i64 a, .int .i64 b, .str c, .sl .fro (avs d), .sl .fro (e.map .str)]]⟩), (N + 2, ⟨5, true, [.agg [.int .i64 0, .int .i64 0, .str ⟨#[]⟩, .sl .ext [], .sl .ext []]]⟩), (N + 3, ⟨2, true, [.agg [.int .i64 0, .sl .ext []]]⟩), (N + 334, ⟨5, true, [.agg [.int .i64 fn, .int .i64 pc, .hdr (N + 300) 0 slots.length, .sl .fro (avs (cutS stack height)), .hdr (N + 301) 0 (ms.length + 1)]]⟩)] (N + 500)) Q) : AW Try.prog 146 rsagaC (mkS [(0, .hdr R 0 (A.length + 1)), (3, .ptr N 0 0), (4, .sl .ext []), (5, .ptr (N + 2) 0 0), (6, .ptr (N + 3) 0 0), (7, .bool false), (8, .bool false), (9, .int .i64 A.length), (10, .ptr (N + 334) 0 0), (11, .ptr (N + 358) 0 0), (46, .int .i64 2)] [(R, ⟨5, true, A.map Frame.ao ++ [.agg [.int .i64 fn, .int .i64 pc, .hdr (N + 300) 0 slots.length, .sl .fro (avs stack), .hdr (N + 301) 0 (ms.length + 1)]]⟩), (N + 300, ⟨5, false, avs slots⟩), (N + 301, ⟨10, false, ms.map Mark.av ++ [.agg [.int .i64 2, .int .i64 target, .int .i64 slot, .int .i64 height, .sl .fro (us.map Undo.av), .int .i64 tk, .int .i64 tn, .str tt, .sl .fro (avs ti), .sl .fro (ts.map .str)]]⟩), (N, ⟨5, true, [.agg [.int .i64 a, .int .i64 b, .str c, .sl .fro (avs d), .sl .fro (e.map .str)]]⟩), (N + 2, ⟨5, true, [.agg [.int .i64 0, .int .i64 0, .str ⟨#[]⟩, .sl .ext [], .sl .ext []]]⟩), (N + 3, ⟨2, true, [.agg [.int .i64 0, .sl .ext []]]⟩), (N + 334, ⟨5, true, [.agg [.int .i64 fn, .int .i64 pc, .hdr (N + 300) 0 slots.length, .sl .fro (avs stack), .hdr (N + 301) 0 (ms.length + 1)]]⟩), (N + 358, ⟨10, true, [.agg [.int .i64 2, .int .i64 target, .int .i64 slot, .int .i64 height, .sl .fro (us.map Undo.av), .int .i64 tk, .int .i64 tn, .str tt, .sl .fro (avs ti), .sl .fro (ts.map .str)]]⟩)] (N + 400)) Q := by
  have hN : (∀ q, (R = N + q) = False) ∧ (∀ q, (N + q = R) = False) ∧ (R = N) = False ∧ (N = R) = False ∧ (∀ q, (N + q < N) = False) ∧ (∀ q, R < N + q) ∧ R < N ∧ (∀ q, (N = N + 1500 + q) = False) ∧ (∀ q, (N + 1500 + q = N) = False) ∧ (∀ q, (N = N + 700 + q) = False) ∧ (∀ q, (N + 700 + q = N) = False) := by
    refine ⟨?_, ?_, ?_, ?_, ?_, ?_, ?_, ?_, ?_, ?_, ?_⟩ <;> first | exact eq_false (by omega) | exact fun q => eq_false (by omega) | exact fun q => by omega | omega
  have hA1 := ao_len A
  have hA2 := ao_shut A
  have he := elem_snoc Frame.ao A
  have hset := set_snoc Frame.ao A
  have htk := take_snoc Frame.ao A
  have heM := elem_snoc Mark.av ms
  have hsetM := set_snoc Mark.av ms
  have hsl := av_len slots
  have h2 : (0 : Int) ≤ A.length := by omega
  have h3 : (A.length : Int) < (A.length : Int) + 1 := by omega
  have h4 : A.length < A.length + 1 := by omega
  have hw' : IntKind.i64.wrap (ms.length : Int) = (ms.length : Int) := i64_in _ ⟨by omega, by omega⟩
  have h2' : (0 : Int) ≤ ms.length := by omega
  have h3' : (ms.length : Int) < (ms.length : Int) + 1 := by omega
  have h4' : ms.length < ms.length + 1 := by omega
  have h5' : (ms.length : Int) ≤ (ms.length : Int) + 1 := by omega
  have h6' : ms.length ≤ ms.length + 1 := by omega
  have h55 := f55 (N + 450) (N + 300) (N + 301) slots.length (ms.length + 1) fn pc stack ⟨2, target, slot, height, us, tk, tn, tt, ti, ts⟩
  simp only [Mark.av] at h55
  repeat refine AW.seq ?_
  refine AW.reg ?_
  have hF := hN
  repeat (first | refine wD1 ?_ | refine wD2 ?_ | refine wE1 ?_ | refine wE2 ?_ | (refine wE3 ?_; intro _) | (refine wE4 ?_; intro _) | refine wN ?_ | ((with_reducible show evIs _ (_ :: _) _ _); first | refine wQ ?_ | refine wF ?_ | refine wG ?_ | refine wT ?_ | refine wM ?_ | refine wS ?_ | refine wP ?_ | refine wJ ?_ | refine wX ?_ | refine wY ?_))
  clear hF
  repeat refine evDone ?_
  try (show AW _ _ _ _ _)
  have hF := hN
  refine wL (hA := h55) ?_
  clear hF
  rintro _ _ _ ⟨rfl, rfl, rfl⟩
  have hF := hN
  repeat (first | refine wD1 ?_ | refine wD2 ?_ | refine wE1 ?_ | refine wE2 ?_ | (refine wE3 ?_; intro _) | (refine wE4 ?_; intro _) | refine wN ?_ | ((with_reducible show evIs _ (_ :: _) _ _); first | refine wQ ?_ | refine wF ?_ | refine wG ?_ | refine wT ?_ | refine wM ?_ | refine wS ?_ | refine wP ?_ | refine wJ ?_ | refine wX ?_ | refine wY ?_))
  clear hF
  repeat refine evDone ?_
  try (show AW _ _ _ _ _)
  repeat refine AW.seq ?_
  refine AW.reg ?_
  have hF := And.intro (h2) (And.intro (h3) (And.intro (h4) (And.intro (hw') (And.intro (h2') (And.intro (h3') (And.intro (h4') (And.intro (h5') (And.intro (h6') (And.intro (he) (And.intro (hset) (And.intro (heM) (And.intro (hsetM) (And.intro (hsl) (hN))))))))))))))
  repeat (first | refine wD1 ?_ | refine wD2 ?_ | refine wE1 ?_ | refine wE2 ?_ | (refine wE3 ?_; intro _) | (refine wE4 ?_; intro _) | refine wN ?_ | ((with_reducible show evIs _ (_ :: _) _ _); first | refine wQ ?_ | refine wF ?_ | refine wG ?_ | refine wT ?_ | refine wM ?_ | refine wS ?_ | refine wP ?_ | refine wJ ?_ | refine wX ?_ | refine wY ?_))
  clear hF
  repeat refine evDone ?_
  try (show AW _ _ _ _ _)
  repeat refine AW.seq ?_
  refine AW.condT (by simp []) (by simp []) ?_
  repeat refine AW.seq ?_
  refine AW.reg ?_
  have hF := And.intro (h2) (And.intro (h3) (And.intro (h4) (And.intro (hw') (And.intro (h2') (And.intro (h3') (And.intro (h4') (And.intro (h5') (And.intro (h6') (And.intro (he) (And.intro (hset) (And.intro (heM) (And.intro (hsetM) (And.intro (hsl) (hN))))))))))))))
  repeat (first | refine wD1 ?_ | refine wD2 ?_ | refine wE1 ?_ | refine wE2 ?_ | (refine wE3 ?_; intro _) | (refine wE4 ?_; intro _) | refine wN ?_ | ((with_reducible show evIs _ (_ :: _) _ _); first | refine wQ ?_ | refine wF ?_ | refine wG ?_ | refine wT ?_ | refine wM ?_ | refine wS ?_ | refine wP ?_ | refine wJ ?_ | refine wX ?_ | refine wY ?_))
  clear hF
  repeat refine evDone ?_
  try (show AW _ _ _ _ _)
  repeat refine AW.seq ?_
  refine AW.reg ?_
  have hF := And.intro (h2) (And.intro (h3) (And.intro (h4) (And.intro (hw') (And.intro (h2') (And.intro (h3') (And.intro (h4') (And.intro (h5') (And.intro (h6') (And.intro (he) (And.intro (hset) (And.intro (heM) (And.intro (hsetM) (And.intro (hsl) (hN))))))))))))))
  repeat (first | refine wD1 ?_ | refine wD2 ?_ | refine wE1 ?_ | refine wE2 ?_ | (refine wE3 ?_; intro _) | (refine wE4 ?_; intro _) | refine wN ?_ | ((with_reducible show evIs _ (_ :: _) _ _); first | refine wQ ?_ | refine wF ?_ | refine wG ?_ | refine wT ?_ | refine wM ?_ | refine wS ?_ | refine wP ?_ | refine wJ ?_ | refine wX ?_ | refine wY ?_))
  clear hF
  repeat refine evDone ?_
  try (show AW _ _ _ _ _)
  refine AW.fit (st' := mkS [(0, .hdr R 0 (A.length + 1)), (3, .ptr N 0 0), (4, .sl .ext []), (5, .ptr (N + 2) 0 0), (6, .ptr (N + 3) 0 0), (7, .bool false), (8, .bool false), (9, .int .i64 A.length), (10, .ptr (N + 334) 0 0)] [(R, ⟨5, true, A.map Frame.ao ++ [.agg [.int .i64 fn, .int .i64 pc, .hdr (N + 300) 0 slots.length, .sl .fro (avs stack), .hdr (N + 301) 0 (ms.length + 1)]]⟩), (N + 300, ⟨5, false, avs slots⟩), (N + 301, ⟨10, false, ms.map Mark.av ++ [.agg [.int .i64 3, .int .i64 target, .int .i64 slot, .int .i64 height, .sl .fro (us.map Undo.av), .int .i64 a, .int .i64 b, .str c, .sl .fro (avs d), .sl .fro (e.map .str)]]⟩), (N, ⟨5, true, [.agg [.int .i64 a, .int .i64 b, .str c, .sl .fro (avs d), .sl .fro (e.map .str)]]⟩), (N + 2, ⟨5, true, [.agg [.int .i64 0, .int .i64 0, .str ⟨#[]⟩, .sl .ext [], .sl .ext []]]⟩), (N + 3, ⟨2, true, [.agg [.int .i64 0, .sl .ext []]]⟩), (N + 334, ⟨5, true, [.agg [.int .i64 fn, .int .i64 pc, .hdr (N + 300) 0 slots.length, .sl .fro (avs (cutS stack height)), .hdr (N + 301) 0 (ms.length + 1)]]⟩)] (N + 500)) ?_ ?_
  · refine Fit.mk _ _ _ (by simp [hN, conv2, newEmp, convs_refl, convs, conv]) (by simp [hN, heapFit, newEmp, conv2s, conv2, convs_refl, convs, conv]) (by intro q hq; first | (simp at hq; done) | (simp at hq; omega) | (simp at hq; simp; omega))
  exact hC
theorem r_saga3 (A : List Frame) (ms : List Mark) (fn pc : Int) (slots stack : List Val) (target slot height : Int) (us : List Undo) (tk tn : Int) (tt : ByteArray) (ti : List Val) (ts : List ByteArray) (a b : Int) (c : ByteArray) (d : List Val) (e : List ByteArray) (N R : Nat) (hRN : R < N) (H0 : List (Nat × Blk)) (hH0 : (mkH H0 R).isSome = true) (hkA : A.length < 12) (hml : ms.length < 12) (Q : AE → St → Prop) (hC : AW Try.prog 146 rnextC (mkS [(0, .hdr R 0 (A.length + 1)), (3, .ptr N 0 0), (4, .sl .ext []), (5, .ptr (N + 2) 0 0), (6, .ptr (N + 3) 0 0), (7, .bool false), (8, .bool false), (9, .int .i64 A.length), (10, .ptr (N + 334) 0 0)] [(R, ⟨5, true, A.map Frame.ao ++ [.agg [.int .i64 fn, .int .i64 pc, .hdr (N + 300) 0 slots.length, .sl .fro (avs stack), .hdr (N + 301) 0 (ms.length + 1)]]⟩), (N + 300, ⟨5, false, avs slots⟩), (N + 301, ⟨10, false, ms.map Mark.av ++ [.agg [.int .i64 3, .int .i64 target, .int .i64 slot, .int .i64 height, .sl .fro (us.map Undo.av), .int .i64 tk, .int .i64 tn, .str tt, .sl .fro (avs ti), .sl .fro (ts.map .str)]]⟩), (N, ⟨5, true, [.agg [.int .i64 a, .int .i64 b, .str c, .sl .fro (avs d), .sl .fro (e.map .str)]]⟩), (N + 2, ⟨5, true, [.agg [.int .i64 0, .int .i64 0, .str ⟨#[]⟩, .sl .ext [], .sl .ext []]]⟩), (N + 3, ⟨2, true, [.agg [.int .i64 0, .sl .ext []]]⟩), (N + 334, ⟨5, true, [.agg [.int .i64 fn, .int .i64 pc, .hdr (N + 300) 0 slots.length, .sl .fro (avs (cutS stack height)), .hdr (N + 301) 0 (ms.length + 1)]]⟩)] (N + 500)) Q) : AW Try.prog 146 rsagaC (mkS [(0, .hdr R 0 (A.length + 1)), (3, .ptr N 0 0), (4, .sl .ext []), (5, .ptr (N + 2) 0 0), (6, .ptr (N + 3) 0 0), (7, .bool false), (8, .bool false), (9, .int .i64 A.length), (10, .ptr (N + 334) 0 0), (11, .ptr (N + 358) 0 0), (46, .int .i64 3)] [(R, ⟨5, true, A.map Frame.ao ++ [.agg [.int .i64 fn, .int .i64 pc, .hdr (N + 300) 0 slots.length, .sl .fro (avs stack), .hdr (N + 301) 0 (ms.length + 1)]]⟩), (N + 300, ⟨5, false, avs slots⟩), (N + 301, ⟨10, false, ms.map Mark.av ++ [.agg [.int .i64 3, .int .i64 target, .int .i64 slot, .int .i64 height, .sl .fro (us.map Undo.av), .int .i64 tk, .int .i64 tn, .str tt, .sl .fro (avs ti), .sl .fro (ts.map .str)]]⟩), (N, ⟨5, true, [.agg [.int .i64 a, .int .i64 b, .str c, .sl .fro (avs d), .sl .fro (e.map .str)]]⟩), (N + 2, ⟨5, true, [.agg [.int .i64 0, .int .i64 0, .str ⟨#[]⟩, .sl .ext [], .sl .ext []]]⟩), (N + 3, ⟨2, true, [.agg [.int .i64 0, .sl .ext []]]⟩), (N + 334, ⟨5, true, [.agg [.int .i64 fn, .int .i64 pc, .hdr (N + 300) 0 slots.length, .sl .fro (avs stack), .hdr (N + 301) 0 (ms.length + 1)]]⟩), (N + 358, ⟨10, true, [.agg [.int .i64 3, .int .i64 target, .int .i64 slot, .int .i64 height, .sl .fro (us.map Undo.av), .int .i64 tk, .int .i64 tn, .str tt, .sl .fro (avs ti), .sl .fro (ts.map .str)]]⟩)] (N + 400)) Q := by
  have hN : (∀ q, (R = N + q) = False) ∧ (∀ q, (N + q = R) = False) ∧ (R = N) = False ∧ (N = R) = False ∧ (∀ q, (N + q < N) = False) ∧ (∀ q, R < N + q) ∧ R < N ∧ (∀ q, (N = N + 1500 + q) = False) ∧ (∀ q, (N + 1500 + q = N) = False) ∧ (∀ q, (N = N + 700 + q) = False) ∧ (∀ q, (N + 700 + q = N) = False) := by
    refine ⟨?_, ?_, ?_, ?_, ?_, ?_, ?_, ?_, ?_, ?_, ?_⟩ <;> first | exact eq_false (by omega) | exact fun q => eq_false (by omega) | exact fun q => by omega | omega
  have hA1 := ao_len A
  have hA2 := ao_shut A
  have he := elem_snoc Frame.ao A
  have hset := set_snoc Frame.ao A
  have htk := take_snoc Frame.ao A
  have heM := elem_snoc Mark.av ms
  have hsetM := set_snoc Mark.av ms
  have hsl := av_len slots
  have h2 : (0 : Int) ≤ A.length := by omega
  have h3 : (A.length : Int) < (A.length : Int) + 1 := by omega
  have h4 : A.length < A.length + 1 := by omega
  have hw' : IntKind.i64.wrap (ms.length : Int) = (ms.length : Int) := i64_in _ ⟨by omega, by omega⟩
  have h2' : (0 : Int) ≤ ms.length := by omega
  have h3' : (ms.length : Int) < (ms.length : Int) + 1 := by omega
  have h4' : ms.length < ms.length + 1 := by omega
  have h5' : (ms.length : Int) ≤ (ms.length : Int) + 1 := by omega
  have h6' : ms.length ≤ ms.length + 1 := by omega
  have h55 := f55 (N + 450) (N + 300) (N + 301) slots.length (ms.length + 1) fn pc stack ⟨3, target, slot, height, us, tk, tn, tt, ti, ts⟩
  simp only [Mark.av] at h55
  repeat refine AW.seq ?_
  refine AW.reg ?_
  have hF := hN
  repeat (first | refine wD1 ?_ | refine wD2 ?_ | refine wE1 ?_ | refine wE2 ?_ | (refine wE3 ?_; intro _) | (refine wE4 ?_; intro _) | refine wN ?_ | ((with_reducible show evIs _ (_ :: _) _ _); first | refine wQ ?_ | refine wF ?_ | refine wG ?_ | refine wT ?_ | refine wM ?_ | refine wS ?_ | refine wP ?_ | refine wJ ?_ | refine wX ?_ | refine wY ?_))
  clear hF
  repeat refine evDone ?_
  try (show AW _ _ _ _ _)
  have hF := hN
  refine wL (hA := h55) ?_
  clear hF
  rintro _ _ _ ⟨rfl, rfl, rfl⟩
  have hF := hN
  repeat (first | refine wD1 ?_ | refine wD2 ?_ | refine wE1 ?_ | refine wE2 ?_ | (refine wE3 ?_; intro _) | (refine wE4 ?_; intro _) | refine wN ?_ | ((with_reducible show evIs _ (_ :: _) _ _); first | refine wQ ?_ | refine wF ?_ | refine wG ?_ | refine wT ?_ | refine wM ?_ | refine wS ?_ | refine wP ?_ | refine wJ ?_ | refine wX ?_ | refine wY ?_))
  clear hF
  repeat refine evDone ?_
  try (show AW _ _ _ _ _)
  repeat refine AW.seq ?_
  refine AW.reg ?_
  have hF := And.intro (h2) (And.intro (h3) (And.intro (h4) (And.intro (hw') (And.intro (h2') (And.intro (h3') (And.intro (h4') (And.intro (h5') (And.intro (h6') (And.intro (he) (And.intro (hset) (And.intro (heM) (And.intro (hsetM) (And.intro (hsl) (hN))))))))))))))
  repeat (first | refine wD1 ?_ | refine wD2 ?_ | refine wE1 ?_ | refine wE2 ?_ | (refine wE3 ?_; intro _) | (refine wE4 ?_; intro _) | refine wN ?_ | ((with_reducible show evIs _ (_ :: _) _ _); first | refine wQ ?_ | refine wF ?_ | refine wG ?_ | refine wT ?_ | refine wM ?_ | refine wS ?_ | refine wP ?_ | refine wJ ?_ | refine wX ?_ | refine wY ?_))
  clear hF
  repeat refine evDone ?_
  try (show AW _ _ _ _ _)
  repeat refine AW.seq ?_
  refine AW.condF (by simp []) (by simp []) ?_
  refine AW.skip ?_
  show AW _ _ _ _ _
  refine AW.fit (st' := mkS [(0, .hdr R 0 (A.length + 1)), (3, .ptr N 0 0), (4, .sl .ext []), (5, .ptr (N + 2) 0 0), (6, .ptr (N + 3) 0 0), (7, .bool false), (8, .bool false), (9, .int .i64 A.length), (10, .ptr (N + 334) 0 0)] [(R, ⟨5, true, A.map Frame.ao ++ [.agg [.int .i64 fn, .int .i64 pc, .hdr (N + 300) 0 slots.length, .sl .fro (avs stack), .hdr (N + 301) 0 (ms.length + 1)]]⟩), (N + 300, ⟨5, false, avs slots⟩), (N + 301, ⟨10, false, ms.map Mark.av ++ [.agg [.int .i64 3, .int .i64 target, .int .i64 slot, .int .i64 height, .sl .fro (us.map Undo.av), .int .i64 tk, .int .i64 tn, .str tt, .sl .fro (avs ti), .sl .fro (ts.map .str)]]⟩), (N, ⟨5, true, [.agg [.int .i64 a, .int .i64 b, .str c, .sl .fro (avs d), .sl .fro (e.map .str)]]⟩), (N + 2, ⟨5, true, [.agg [.int .i64 0, .int .i64 0, .str ⟨#[]⟩, .sl .ext [], .sl .ext []]]⟩), (N + 3, ⟨2, true, [.agg [.int .i64 0, .sl .ext []]]⟩), (N + 334, ⟨5, true, [.agg [.int .i64 fn, .int .i64 pc, .hdr (N + 300) 0 slots.length, .sl .fro (avs (cutS stack height)), .hdr (N + 301) 0 (ms.length + 1)]]⟩)] (N + 500)) ?_ ?_
  · refine Fit.mk _ _ _ (by simp [hN, conv2, newEmp, convs_refl, convs, conv]) (by simp [hN, heapFit, newEmp, conv2s, conv2, convs_refl, convs, conv]) (by intro q hq; first | (simp at hq; done) | (simp at hq; omega) | (simp at hq; simp; omega))
  exact hC
end Go.Proofs.Ytafkaofaioleiaa

set_option linter.unusedSimpArgs false
set_option linter.unusedVariables false
set_option maxHeartbeats 16000000
namespace Go.Proofs.Ytafkaofaioleiaa
open Go Go.Amb Go.IntWalk

def stepR (fs : List Frame) (v : Val) : Out :=
  match fs.getLast? with
  | none => .done [] noneU false
  | some f => stepF fs.dropLast f v
theorem stepR_snoc (A : List Frame) (f : Frame) (v : Val) : stepR (A ++ [f]) v = stepF A f v := by simp [stepR]
theorem throwF_step (k : Nat) (fs : List Frame) (v : Val) {T : List Frame × Undo × Bool} (h : throwF (k + 1) fs v = T) : OutIs k T (stepR fs v) := by
  rcases snoc_cases fs with rfl | ⟨A, f, rfl⟩
  · exact h
  · rw [stepR_snoc]; exact throwF_is h
theorem f41 (N R : Nat) (hRN : R < N) (fs : List Frame) (v0 : Val) (hok : oks fs) (hlen : fs.length ≤ 12) (hv0 : v0.okv) : BCall Try.prog 41 [(R, ⟨5, false, fs.map Frame.ao⟩)] N [.hdr R 0 fs.length, v0.av] (StepPost N R (stepR fs v0)) := by
  obtain ⟨a, b, c, d, e⟩ := v0
  have hN : (∀ q, (R = N + q) = False) ∧ (∀ q, (N + q = R) = False) ∧ (R = N) = False ∧ (N = R) = False ∧ (∀ q, (N + q < N) = False) ∧ (∀ q, R < N + q) ∧ R < N ∧ (∀ q, (R = N + 310 + q) = False) ∧ (∀ q, (N + 310 + q = R) = False) ∧ (∀ q, (N = N + 310 + q) = False) ∧ (∀ q, (N + 310 + q = N) = False) ∧ (∀ q, R < N + 310 + q) := by
    refine ⟨?_, ?_, ?_, ?_, ?_, ?_, ?_, ?_, ?_, ?_, ?_, ?_⟩ <;> first | exact eq_false (by omega) | exact fun q => eq_false (by omega) | exact fun q => by omega | omega
  obtain ⟨H0, hH⟩ : ∃ H0, H0 = [(R, (⟨5, false, fs.map Frame.ao⟩ : Blk))] := ⟨_, rfl⟩
  rw [← hH]
  simp only [Val.av]
  refine bcall_coded a41_ok (by simp) ?_
  rw [show mkS (argT 0 [.hdr R 0 fs.length, .agg [.int .i64 a, .int .i64 b, .str c, .sl .fro (avs d), .sl .fro (e.map .str)]]) H0 N = mkS [(0, .hdr R 0 fs.length), (1, .agg [.int .i64 a, .int .i64 b, .str c, .sl .fro (avs d), .sl .fro (e.map .str)])] [(R, ⟨5, false, fs.map Frame.ao⟩)] N by rw [hH]; rfl]
  obtain ⟨o, ho⟩ : ∃ o, o = stepR fs (Val.mk a b c d e) := ⟨_, rfl⟩
  rw [← ho]
  rcases snoc_cases fs with rfl | ⟨A, ⟨fn, pc, slots, stack, marks⟩, rfl⟩
  · rw [show stepR [] (Val.mk a b c d e) = .done [] noneU false from rfl] at ho
    subst ho
    simp only [List.map_nil, List.length_nil]
    repeat refine AW.seq ?_
    refine AW.reg ?_
    have hF := hN
    repeat (first | refine wD1 ?_ | refine wD2 ?_ | refine wE1 ?_ | refine wE2 ?_ | (refine wE3 ?_; intro _) | (refine wE4 ?_; intro _) | refine wN ?_ | ((with_reducible show evIs _ (_ :: _) _ _); first | refine wQ ?_ | refine wF ?_ | refine wG ?_ | refine wT ?_ | refine wM ?_ | refine wS ?_ | refine wP ?_ | refine wJ ?_ | refine wX ?_ | refine wY ?_))
    clear hF
    repeat refine evDone ?_
    try (show AW _ _ _ _ _)
    repeat refine AW.seq ?_
    refine AW.reg ?_
    have hF := hN
    repeat (first | refine wD1 ?_ | refine wD2 ?_ | refine wE1 ?_ | refine wE2 ?_ | (refine wE3 ?_; intro _) | (refine wE4 ?_; intro _) | refine wN ?_ | ((with_reducible show evIs _ (_ :: _) _ _); first | refine wQ ?_ | refine wF ?_ | refine wG ?_ | refine wT ?_ | refine wM ?_ | refine wS ?_ | refine wP ?_ | refine wJ ?_ | refine wX ?_ | refine wY ?_))
    clear hF
    repeat refine evDone ?_
    try (show AW _ _ _ _ _)
    repeat refine AW.seq ?_
    refine AW.condT (by simp []) (by simp []) ?_
    repeat refine AW.seq ?_
    refine AW.draw ?_
    have hF := hN
    repeat (first | refine wD1 ?_ | refine wD2 ?_ | refine wE1 ?_ | refine wE2 ?_ | (refine wE3 ?_; intro _) | (refine wE4 ?_; intro _) | refine wN ?_ | ((with_reducible show evIs _ (_ :: _) _ _); first | refine wQ ?_ | refine wF ?_ | refine wG ?_ | refine wT ?_ | refine wM ?_ | refine wS ?_ | refine wP ?_ | refine wJ ?_ | refine wX ?_ | refine wY ?_))
    clear hF
    repeat refine evDone ?_
    try (show AW _ _ _ _ _)
    have hF := hN
    refine wC (hA := f43) ?_
    clear hF
    have hF := hN
    repeat (first | refine wD1 ?_ | refine wD2 ?_ | refine wE1 ?_ | refine wE2 ?_ | (refine wE3 ?_; intro _) | (refine wE4 ?_; intro _) | refine wN ?_ | ((with_reducible show evIs _ (_ :: _) _ _); first | refine wQ ?_ | refine wF ?_ | refine wG ?_ | refine wT ?_ | refine wM ?_ | refine wS ?_ | refine wP ?_ | refine wJ ?_ | refine wX ?_ | refine wY ?_))
    clear hF
    repeat refine evDone ?_
    try (show AW _ _ _ _ _)
    refine AW.ret ⟨by simp [resP, a41_res, ARes.op, hN], [], N + 100, [.sl .ext [], .agg [.int .i64 a, .int .i64 b, .str c, .sl .fro (avs d), .sl .fro (e.map .str)], .agg [.int .i64 (-1), .sl .fro []], .bool true, .bool false], ⟨Val.mk a b c d e, rfl, by simp [Val.av, noneU, Undo.av, avs, oneOf]⟩, by omega, by simp, rfl, by simp, ?_⟩
    simp only [resV, a41_res, List.map_cons, List.map_nil, ARes.op]
    refine Fit.mk _ _ _ (by simp [hN, conv2, newEmp, convs_refl, convs, conv]) (by simp [hN, heapFit, newEmp, conv2s, conv2, convs_refl, convs, conv]) (by intro q hq; first | (simp at hq; done) | (simp at hq; omega) | (simp at hq; simp; omega))
  rw [stepR_snoc] at ho
  obtain ⟨hAok, hfok⟩ := oks_snoc.1 hok
  have hkA : A.length < 12 := by simp at hlen; omega
  have hA1 := ao_len A
  have hA2 := ao_shut A
  have he := elem_snoc Frame.ao A
  have hset := set_snoc Frame.ao A
  have htk := take_snoc Frame.ao A
  have hp : ¬ (A.length : Int) + 1 = 0 := by omega
  have hw : IntKind.i64.wrap (A.length : Int) = (A.length : Int) := i64_in _ ⟨by omega, by omega⟩
  have h2 : (0 : Int) ≤ A.length := by omega
  have h3 : (A.length : Int) < (A.length : Int) + 1 := by omega
  have h3b : (A.length : Int) ≤ (A.length : Int) + 1 := by omega
  have h4 : A.length < A.length + 1 := by omega
  have h4b : A.length ≤ A.length + 1 := by omega
  have hsl := av_len slots
  simp only [List.map_append, List.map_cons, List.map_nil, List.length_append, List.length_cons, List.length_nil, Nat.zero_add] at hH ⊢
  repeat refine AW.seq ?_
  refine AW.reg ?_
  have hF := hN
  repeat (first | refine wD1 ?_ | refine wD2 ?_ | refine wE1 ?_ | refine wE2 ?_ | (refine wE3 ?_; intro _) | (refine wE4 ?_; intro _) | refine wN ?_ | ((with_reducible show evIs _ (_ :: _) _ _); first | refine wQ ?_ | refine wF ?_ | refine wG ?_ | refine wT ?_ | refine wM ?_ | refine wS ?_ | refine wP ?_ | refine wJ ?_ | refine wX ?_ | refine wY ?_))
  clear hF
  repeat refine evDone ?_
  try (show AW _ _ _ _ _)
  repeat refine AW.seq ?_
  refine AW.reg ?_
  have hF := And.intro (hp) (hN)
  repeat (first | refine wD1 ?_ | refine wD2 ?_ | refine wE1 ?_ | refine wE2 ?_ | (refine wE3 ?_; intro _) | (refine wE4 ?_; intro _) | refine wN ?_ | ((with_reducible show evIs _ (_ :: _) _ _); first | refine wQ ?_ | refine wF ?_ | refine wG ?_ | refine wT ?_ | refine wM ?_ | refine wS ?_ | refine wP ?_ | refine wJ ?_ | refine wX ?_ | refine wY ?_))
  clear hF
  repeat refine evDone ?_
  try (show AW _ _ _ _ _)
  repeat refine AW.seq ?_
  refine AW.condF (by simp [hp]) (by simp [hp]) ?_
  refine AW.skip ?_
  show AW _ _ _ _ _
  repeat refine AW.seq ?_
  refine AW.reg ?_
  have hF := And.intro (hw) (hN)
  repeat (first | refine wD1 ?_ | refine wD2 ?_ | refine wE1 ?_ | refine wE2 ?_ | (refine wE3 ?_; intro _) | (refine wE4 ?_; intro _) | refine wN ?_ | ((with_reducible show evIs _ (_ :: _) _ _); first | refine wQ ?_ | refine wF ?_ | refine wG ?_ | refine wT ?_ | refine wM ?_ | refine wS ?_ | refine wP ?_ | refine wJ ?_ | refine wX ?_ | refine wY ?_))
  clear hF
  repeat refine evDone ?_
  try (show AW _ _ _ _ _)
  refine AW.fit (st' := mkS [(0, .hdr R 0 (A.length + 1)), (3, .ptr N 0 0), (4, .sl .ext []), (5, .ptr (N + 2) 0 0), (6, .ptr (N + 3) 0 0), (7, .bool false), (8, .bool false), (9, .int .i64 A.length)] [(R, ⟨5, false, A.map Frame.ao ++ [Frame.ao ⟨fn, pc, slots, stack, marks⟩]⟩), (N, ⟨5, true, [.agg [.int .i64 a, .int .i64 b, .str c, .sl .fro (avs d), .sl .fro (e.map .str)]]⟩), (N + 2, ⟨5, true, [.agg [.int .i64 0, .int .i64 0, .str ⟨#[]⟩, .sl .ext [], .sl .ext []]]⟩), (N + 3, ⟨2, true, [.agg [.int .i64 0, .sl .ext []]]⟩)] (N + 50)) ?_ ?_
  · refine Fit.mk _ _ _ (by simp [hN, conv2, newEmp, convs_refl, convs, conv]) (by simp [hN, heapFit, newEmp, conv2s, conv2, convs_refl, convs, conv]) (by intro q hq; first | (simp at hq; done) | (simp at hq; omega) | (simp at hq; simp; omega))
  rw [mkS_eq]
  refine AW.fit (openLast R (N + 300) (N + 301) (A.map Frame.ao) ⟨fn, pc, slots, stack, marks⟩ (by simp) hA1 (by simp) (by simp) (by omega)) ?_
  refine AW.fit (st' := mkS [(0, .hdr R 0 (A.length + 1)), (3, .ptr N 0 0), (4, .sl .ext []), (5, .ptr (N + 2) 0 0), (6, .ptr (N + 3) 0 0), (7, .bool false), (8, .bool false), (9, .int .i64 A.length)] [(R, ⟨5, true, A.map Frame.ao ++ [.agg [.int .i64 fn, .int .i64 pc, .hdr (N + 300) 0 slots.length, .sl .fro (avs stack), .hdr (N + 301) 0 marks.length]]⟩), (N + 300, ⟨5, false, avs slots⟩), (N + 301, ⟨10, false, marks.map Mark.av⟩), (N, ⟨5, true, [.agg [.int .i64 a, .int .i64 b, .str c, .sl .fro (avs d), .sl .fro (e.map .str)]]⟩), (N + 2, ⟨5, true, [.agg [.int .i64 0, .int .i64 0, .str ⟨#[]⟩, .sl .ext [], .sl .ext []]]⟩), (N + 3, ⟨2, true, [.agg [.int .i64 0, .sl .ext []]]⟩)] (N + 310)) ?_ ?_
  · refine Fit.mk _ _ _ (by simp [hupd, uupd, rowH, hN, conv2, newEmp, convs_refl, convs, conv]) (by simp [hupd, uupd, rowH, hN, heapFit, newEmp, conv2s, conv2, convs_refl, convs, conv]) (by intro q hq; first | (simp at hq; done) | (simp at hq; omega) | (simp at hq; simp; omega))
  repeat refine AW.seq ?_
  refine AW.reg ?_
  have hF := And.intro (hw) (And.intro (h2) (And.intro (h3) (And.intro (he) (hN))))
  repeat (first | refine wD1 ?_ | refine wD2 ?_ | refine wE1 ?_ | refine wE2 ?_ | (refine wE3 ?_; intro _) | (refine wE4 ?_; intro _) | refine wN ?_ | ((with_reducible show evIs _ (_ :: _) _ _); first | refine wQ ?_ | refine wF ?_ | refine wG ?_ | refine wT ?_ | refine wM ?_ | refine wS ?_ | refine wP ?_ | refine wJ ?_ | refine wX ?_ | refine wY ?_))
  clear hF
  repeat refine evDone ?_
  try (show AW _ _ _ _ _)
  rcases snoc_cases marks with rfl | ⟨ms, ⟨kind, target, slot, height, us, tk, tn, tt, ti, ts⟩, rfl⟩
  · rw [stepF_nil _ _ _ rfl] at ho
    subst ho
    simp only [List.map_nil, List.length_nil]
    repeat refine AW.seq ?_
    refine AW.reg ?_
    have hF := hN
    repeat (first | refine wD1 ?_ | refine wD2 ?_ | refine wE1 ?_ | refine wE2 ?_ | (refine wE3 ?_; intro _) | (refine wE4 ?_; intro _) | refine wN ?_ | ((with_reducible show evIs _ (_ :: _) _ _); first | refine wQ ?_ | refine wF ?_ | refine wG ?_ | refine wT ?_ | refine wM ?_ | refine wS ?_ | refine wP ?_ | refine wJ ?_ | refine wX ?_ | refine wY ?_))
    clear hF
    repeat refine evDone ?_
    try (show AW _ _ _ _ _)
    repeat refine AW.seq ?_
    refine AW.condT (by simp []) (by simp []) ?_
    repeat refine AW.seq ?_
    refine AW.draw ?_
    have hF := And.intro (h2) (And.intro (h3b) (And.intro (h4b) (hN)))
    repeat (first | refine wD1 ?_ | refine wD2 ?_ | refine wE1 ?_ | refine wE2 ?_ | (refine wE3 ?_; intro _) | (refine wE4 ?_; intro _) | refine wN ?_ | ((with_reducible show evIs _ (_ :: _) _ _); first | refine wQ ?_ | refine wF ?_ | refine wG ?_ | refine wT ?_ | refine wM ?_ | refine wS ?_ | refine wP ?_ | refine wJ ?_ | refine wX ?_ | refine wY ?_))
    clear hF
    repeat refine evDone ?_
    try (show AW _ _ _ _ _)
    have hF := hN
    refine wC (hA := f43) ?_
    clear hF
    have hF := And.intro (h2) (And.intro (h3b) (And.intro (h4b) (hN)))
    repeat (first | refine wD1 ?_ | refine wD2 ?_ | refine wE1 ?_ | refine wE2 ?_ | (refine wE3 ?_; intro _) | (refine wE4 ?_; intro _) | refine wN ?_ | ((with_reducible show evIs _ (_ :: _) _ _); first | refine wQ ?_ | refine wF ?_ | refine wG ?_ | refine wT ?_ | refine wM ?_ | refine wS ?_ | refine wP ?_ | refine wJ ?_ | refine wX ?_ | refine wY ?_))
    clear hF
    repeat refine evDone ?_
    try (show AW _ _ _ _ _)
    refine AW.fit (st' := mkS [(4, .hdr R 0 A.length), (5, .ptr (N + 2) 0 0), (6, .ptr (N + 3) 0 0), (7, .bool false), (8, .bool false)] [(R, ⟨5, true, A.map Frame.ao ++ [.agg [.int .i64 fn, .int .i64 pc, .hdr (N + 300) 0 slots.length, .sl .fro (avs stack), .hdr (N + 301) 0 0]]⟩), (N + 300, ⟨5, false, avs slots⟩), (N + 301, ⟨10, false, []⟩), (N + 2, ⟨5, true, [.agg [.int .i64 a, .int .i64 b, .str c, .sl .fro (avs d), .sl .fro (e.map .str)]]⟩), (N + 3, ⟨2, true, [.agg [.int .i64 (-1), .sl .fro []]]⟩)] (N + 3000)) ?_ ?_
    · refine Fit.mk _ _ _ (by simp [hN, conv2, newEmp, convs_refl, convs, conv]) (by simp [hN, heapFit, newEmp, conv2s, conv2, convs_refl, convs, conv]) (by intro q hq; first | (simp at hq; done) | (simp at hq; omega) | (simp at hq; simp; omega))
    rw [mkS_eq]
    refine AW.fit (shutLast R (N + 300) (N + 301) (A.map Frame.ao) fn pc slots stack ([]) ([]) 0 (by simp [rowH]) (by simp [hN]) (by simp [hN]) (by simp) (by simp [Mark.av]) hA1 hA2 (by omega) (by omega) (by omega)) ?_
    refine AW.fit (Fit.cutR (r := R) A.length (by simp [hupd]; rfl)) ?_
    refine AW.fit (st' := mkS [(4, .hdr R 0 A.length), (5, .ptr (N + 2) 0 0), (6, .ptr (N + 3) 0 0), (7, .bool false), (8, .bool false)] [(R, ⟨5, false, A.map Frame.ao⟩), (N + 2, ⟨5, true, [.agg [.int .i64 a, .int .i64 b, .str c, .sl .fro (avs d), .sl .fro (e.map .str)]]⟩), (N + 3, ⟨2, true, [.agg [.int .i64 (-1), .sl .fro []]]⟩)] (N + 3000)) ?_ ?_
    · refine Fit.mk _ _ _ (by simp [hupd, hN, conv2, newEmp, convs_refl, convs, conv]) (by simp [hupd, hN, heapFit, newEmp, conv2s, conv2, convs_refl, convs, conv]) (by intro q hq; first | (simp at hq; done) | (simp at hq; omega) | (simp at hq; simp; omega))
    rw [mkS_eq]
    refine AW.ret (⟨by simp [resP, a41_res, ARes.op, hupd, hN], [(R, ⟨5, false, A.map Frame.ao⟩)], N + 4000, [.hdr (R) 0 A.length, .agg [.int .i64 a, .int .i64 b, .str c, .sl .fro (avs d), .sl .fro (e.map .str)], .agg [.int .i64 (-1), .sl .fro []], .bool false, .bool false], ⟨R, .inl rfl, by omega, rfl, by simp [Val.av, noneU, Undo.av, avs, oneOf]⟩, by omega, (by intro p hp; simp at hp; subst hp; first | exact .inl (by simp [hH, mkH, hupd]) | exact .inr (by dsimp only; omega)), rfl, by simp, ?_⟩)
    simp only [resV, a41_res, List.map_cons, List.map_nil, List.map_append, List.length_append, List.length_cons, List.length_nil, Nat.zero_add, ARes.op]
    refine Fit.mk _ _ _ (by simp [hupd, hN, conv2, newEmp, convs_refl, convs, conv]) (by simp [hupd, hN, heapFit, newEmp, conv2s, conv2, convs_refl, convs, conv]) (by intro q hq; first | (simp at hq; done) | (simp at hq; omega) | (simp at hq; simp; omega))
  rw [stepF_snoc _ _ _ ms ⟨kind, target, slot, height, us, tk, tn, tt, ti, ts⟩ rfl] at ho
  have hml : ms.length < 12 := by have := hfok.2; simp at this; omega
  have hmo : Mark.ok ⟨kind, target, slot, height, us, tk, tn, tt, ti, ts⟩ := hfok.1.2.2.2.2.2 _ (by simp)
  have heM := elem_snoc Mark.av ms
  have hsetM := set_snoc Mark.av ms
  have hw' : IntKind.i64.wrap (ms.length : Int) = (ms.length : Int) := i64_in _ ⟨by omega, by omega⟩
  have h1' : ¬ (ms.length : Int) + 1 = 0 := by omega
  have h2' : (0 : Int) ≤ ms.length := by omega
  have h3' : (ms.length : Int) < (ms.length : Int) + 1 := by omega
  have hul : us.length < 10000000000000 := by have := hmo.1; dsimp only at this; omega
  simp only [List.map_append, List.map_cons, List.map_nil, List.length_append, List.length_cons, List.length_nil, Nat.zero_add, Mark.av]
  repeat refine AW.seq ?_
  refine AW.reg ?_
  have hF := And.intro (h1') (hN)
  repeat (first | refine wD1 ?_ | refine wD2 ?_ | refine wE1 ?_ | refine wE2 ?_ | (refine wE3 ?_; intro _) | (refine wE4 ?_; intro _) | refine wN ?_ | ((with_reducible show evIs _ (_ :: _) _ _); first | refine wQ ?_ | refine wF ?_ | refine wG ?_ | refine wT ?_ | refine wM ?_ | refine wS ?_ | refine wP ?_ | refine wJ ?_ | refine wX ?_ | refine wY ?_))
  clear hF
  repeat refine evDone ?_
  try (show AW _ _ _ _ _)
  repeat refine AW.seq ?_
  refine AW.condF (by simp [h1']) (by simp [h1']) ?_
  refine AW.skip ?_
  show AW _ _ _ _ _
  repeat refine AW.seq ?_
  refine AW.reg ?_
  have hF := And.intro (hw') (And.intro (h2') (And.intro (h3') (And.intro (heM) (hN))))
  repeat (first | refine wD1 ?_ | refine wD2 ?_ | refine wE1 ?_ | refine wE2 ?_ | (refine wE3 ?_; intro _) | (refine wE4 ?_; intro _) | refine wN ?_ | ((with_reducible show evIs _ (_ :: _) _ _); first | refine wQ ?_ | refine wF ?_ | refine wG ?_ | refine wT ?_ | refine wM ?_ | refine wS ?_ | refine wP ?_ | refine wJ ?_ | refine wX ?_ | refine wY ?_))
  clear hF
  repeat refine evDone ?_
  try (show AW _ _ _ _ _)
  repeat refine AW.seq ?_
  refine AW.reg ?_
  have hF := hN
  repeat (first | refine wD1 ?_ | refine wD2 ?_ | refine wE1 ?_ | refine wE2 ?_ | (refine wE3 ?_; intro _) | (refine wE4 ?_; intro _) | refine wN ?_ | ((with_reducible show evIs _ (_ :: _) _ _); first | refine wQ ?_ | refine wF ?_ | refine wG ?_ | refine wT ?_ | refine wM ?_ | refine wS ?_ | refine wP ?_ | refine wJ ?_ | refine wX ?_ | refine wY ?_))
  clear hF
  repeat refine evDone ?_
  try (show AW _ _ _ _ _)
  repeat refine AW.seq ?_
  refine AW.block ?_
  repeat refine AW.seq ?_
  refine AW.reg ?_
  by_cases k1 : kind = 1
  · subst k1
    rw [show stepM A _ ms _ _ = .done (A ++ [⟨fn, target, setS slots slot (Val.mk a b c d e), cutS stack height, ms⟩]) noneU true from rfl] at ho
    subst ho
    have hF := hN
    repeat (first | refine wD1 ?_ | refine wD2 ?_ | refine wE1 ?_ | refine wE2 ?_ | (refine wE3 ?_; intro _) | (refine wE4 ?_; intro _) | refine wN ?_ | ((with_reducible show evIs _ (_ :: _) _ _); first | refine wQ ?_ | refine wF ?_ | refine wG ?_ | refine wT ?_ | refine wM ?_ | refine wS ?_ | refine wP ?_ | refine wJ ?_ | refine wX ?_ | refine wY ?_))
    clear hF
    repeat refine evDone ?_
    try (show AW _ _ _ _ _)
    repeat refine AW.seq ?_
    refine AW.condT (by simp []) (by simp []) ?_
    refine AW.fit (st' := mkS [(0, .hdr R 0 (A.length + 1)), (3, .ptr N 0 0), (4, .sl .ext []), (5, .ptr (N + 2) 0 0), (6, .ptr (N + 3) 0 0), (7, .bool false), (8, .bool false), (9, .int .i64 A.length), (10, .ptr (N + 334) 0 0), (11, .ptr (N + 358) 0 0), (46, .int .i64 1)] [(R, ⟨5, true, A.map Frame.ao ++ [.agg [.int .i64 fn, .int .i64 pc, .hdr (N + 300) 0 slots.length, .sl .fro (avs stack), .hdr (N + 301) 0 (ms.length + 1)]]⟩), (N + 300, ⟨5, false, avs slots⟩), (N + 301, ⟨10, false, ms.map Mark.av ++ [.agg [.int .i64 1, .int .i64 target, .int .i64 slot, .int .i64 height, .sl .fro (us.map Undo.av), .int .i64 tk, .int .i64 tn, .str tt, .sl .fro (avs ti), .sl .fro (ts.map .str)]]⟩), (N, ⟨5, true, [.agg [.int .i64 a, .int .i64 b, .str c, .sl .fro (avs d), .sl .fro (e.map .str)]]⟩), (N + 2, ⟨5, true, [.agg [.int .i64 0, .int .i64 0, .str ⟨#[]⟩, .sl .ext [], .sl .ext []]]⟩), (N + 3, ⟨2, true, [.agg [.int .i64 0, .sl .ext []]]⟩), (N + 334, ⟨5, true, [.agg [.int .i64 fn, .int .i64 pc, .hdr (N + 300) 0 slots.length, .sl .fro (avs stack), .hdr (N + 301) 0 (ms.length + 1)]]⟩), (N + 358, ⟨10, true, [.agg [.int .i64 1, .int .i64 target, .int .i64 slot, .int .i64 height, .sl .fro (us.map Undo.av), .int .i64 tk, .int .i64 tn, .str tt, .sl .fro (avs ti), .sl .fro (ts.map .str)]]⟩)] (N + 400)) ?_ ?_
    · refine Fit.mk _ _ _ (by simp [hN, conv2, newEmp, convs_refl, convs, conv]) (by simp [hN, heapFit, newEmp, conv2s, conv2, convs_refl, convs, conv]) (by intro q hq; first | (simp at hq; done) | (simp at hq; omega) | (simp at hq; simp; omega))
    refine r_try A ms fn pc slots stack target slot height us tk tn tt ti ts a b c d e N R hRN H0 (by simp [hH, mkH, hupd]) hkA hml _ ?_
    exact fun s h => h
  by_cases k2 : kind = 2
  · subst k2
    have hF := hN
    repeat (first | refine wD1 ?_ | refine wD2 ?_ | refine wE1 ?_ | refine wE2 ?_ | (refine wE3 ?_; intro _) | (refine wE4 ?_; intro _) | refine wN ?_ | ((with_reducible show evIs _ (_ :: _) _ _); first | refine wQ ?_ | refine wF ?_ | refine wG ?_ | refine wT ?_ | refine wM ?_ | refine wS ?_ | refine wP ?_ | refine wJ ?_ | refine wX ?_ | refine wY ?_))
    clear hF
    repeat refine evDone ?_
    try (show AW _ _ _ _ _)
    repeat refine AW.seq ?_
    refine AW.condF (by simp []) (by simp []) ?_
    repeat refine AW.seq ?_
    refine AW.reg ?_
    have hF := hN
    repeat (first | refine wD1 ?_ | refine wD2 ?_ | refine wE1 ?_ | refine wE2 ?_ | (refine wE3 ?_; intro _) | (refine wE4 ?_; intro _) | refine wN ?_ | ((with_reducible show evIs _ (_ :: _) _ _); first | refine wQ ?_ | refine wF ?_ | refine wG ?_ | refine wT ?_ | refine wM ?_ | refine wS ?_ | refine wP ?_ | refine wJ ?_ | refine wX ?_ | refine wY ?_))
    clear hF
    repeat refine evDone ?_
    try (show AW _ _ _ _ _)
    repeat refine AW.seq ?_
    refine AW.condT (by simp []) (by simp []) ?_
    refine AW.skip ?_
    show AW _ _ _ _ _
    repeat refine AW.seq ?_
    refine AW.condT (by simp []) (by simp []) ?_
    refine AW.fit (st' := mkS [(0, .hdr R 0 (A.length + 1)), (3, .ptr N 0 0), (4, .sl .ext []), (5, .ptr (N + 2) 0 0), (6, .ptr (N + 3) 0 0), (7, .bool false), (8, .bool false), (9, .int .i64 A.length), (10, .ptr (N + 334) 0 0), (11, .ptr (N + 358) 0 0), (46, .int .i64 2)] [(R, ⟨5, true, A.map Frame.ao ++ [.agg [.int .i64 fn, .int .i64 pc, .hdr (N + 300) 0 slots.length, .sl .fro (avs stack), .hdr (N + 301) 0 (ms.length + 1)]]⟩), (N + 300, ⟨5, false, avs slots⟩), (N + 301, ⟨10, false, ms.map Mark.av ++ [.agg [.int .i64 2, .int .i64 target, .int .i64 slot, .int .i64 height, .sl .fro (us.map Undo.av), .int .i64 tk, .int .i64 tn, .str tt, .sl .fro (avs ti), .sl .fro (ts.map .str)]]⟩), (N, ⟨5, true, [.agg [.int .i64 a, .int .i64 b, .str c, .sl .fro (avs d), .sl .fro (e.map .str)]]⟩), (N + 2, ⟨5, true, [.agg [.int .i64 0, .int .i64 0, .str ⟨#[]⟩, .sl .ext [], .sl .ext []]]⟩), (N + 3, ⟨2, true, [.agg [.int .i64 0, .sl .ext []]]⟩), (N + 334, ⟨5, true, [.agg [.int .i64 fn, .int .i64 pc, .hdr (N + 300) 0 slots.length, .sl .fro (avs stack), .hdr (N + 301) 0 (ms.length + 1)]]⟩), (N + 358, ⟨10, true, [.agg [.int .i64 2, .int .i64 target, .int .i64 slot, .int .i64 height, .sl .fro (us.map Undo.av), .int .i64 tk, .int .i64 tn, .str tt, .sl .fro (avs ti), .sl .fro (ts.map .str)]]⟩)] (N + 400)) ?_ ?_
    · refine Fit.mk _ _ _ (by simp [hN, conv2, newEmp, convs_refl, convs, conv]) (by simp [hN, heapFit, newEmp, conv2s, conv2, convs_refl, convs, conv]) (by intro q hq; first | (simp at hq; done) | (simp at hq; omega) | (simp at hq; simp; omega))
    refine r_saga2 A ms fn pc slots stack target slot height us tk tn tt ti ts a b c d e N R hRN H0 (by simp [hH, mkH, hupd]) hkA hml _ ?_
    have hnext : oks (A ++ [⟨fn, pc, slots, cutS stack height, ms ++ [⟨3, target, slot, height, us, a, b, c, d, e⟩]⟩]) := by
      refine oks_snoc.2 ⟨hAok, frame_keeps hfok hfok.1.1 rfl (cutS_ok hfok.1.2.2.1 _) (cutS_len _ _) (by simp) ?_⟩
      intro x hx
      simp only [List.mem_append, List.mem_singleton] at hx
      rcases hx with hx | rfl
      · exact hfok.1.2.2.2.2.2 x (by simp [hx])
      · exact ⟨hmo.1, hmo.2.1, hv0⟩
    rcases snoc_cases us with rfl | ⟨us, ⟨wf, wa⟩, rfl⟩
    · rw [show stepM A _ ms _ _ = .go (A ++ [⟨fn, pc, slots, cutS stack height, ms⟩]) (Val.mk a b c d e) by simp [stepM, Mark.now, Mark.thr, Mark.th]] at ho
      subst ho
      refine r_next_end A ms fn pc slots stack (cutS stack height) target slot height a b c d e a b c d e N R hRN H0 (by simp [hH, mkH, hupd]) hkA hml _ hnext ?_
      exact fun s h => h
    · rw [show stepM A _ ms _ _ = .done (A ++ [⟨fn, pc, slots, cutS stack height, ms ++ [⟨3, target, slot, height, us, a, b, c, d, e⟩]⟩]) ⟨wf, wa⟩ true by simp [stepM, Mark.now, Mark.thr, Mark.th]] at ho
      subst ho
      simp only [List.map_append, List.map_cons, List.map_nil, Undo.av]
      refine r_next_undo A ms fn pc slots stack (cutS stack height) target slot height a b c d e a b c d e N R hRN H0 (by simp [hH, mkH, hupd]) hkA hml _ us wf wa hnext ?_
      exact fun s h => h
  by_cases k3 : kind = 3
  · subst k3
    have hF := hN
    repeat (first | refine wD1 ?_ | refine wD2 ?_ | refine wE1 ?_ | refine wE2 ?_ | (refine wE3 ?_; intro _) | (refine wE4 ?_; intro _) | refine wN ?_ | ((with_reducible show evIs _ (_ :: _) _ _); first | refine wQ ?_ | refine wF ?_ | refine wG ?_ | refine wT ?_ | refine wM ?_ | refine wS ?_ | refine wP ?_ | refine wJ ?_ | refine wX ?_ | refine wY ?_))
    clear hF
    repeat refine evDone ?_
    try (show AW _ _ _ _ _)
    repeat refine AW.seq ?_
    refine AW.condF (by simp []) (by simp []) ?_
    repeat refine AW.seq ?_
    refine AW.reg ?_
    have hF := hN
    repeat (first | refine wD1 ?_ | refine wD2 ?_ | refine wE1 ?_ | refine wE2 ?_ | (refine wE3 ?_; intro _) | (refine wE4 ?_; intro _) | refine wN ?_ | ((with_reducible show evIs _ (_ :: _) _ _); first | refine wQ ?_ | refine wF ?_ | refine wG ?_ | refine wT ?_ | refine wM ?_ | refine wS ?_ | refine wP ?_ | refine wJ ?_ | refine wX ?_ | refine wY ?_))
    clear hF
    repeat refine evDone ?_
    try (show AW _ _ _ _ _)
    repeat refine AW.seq ?_
    refine AW.condF (by simp []) (by simp []) ?_
    repeat refine AW.seq ?_
    refine AW.reg ?_
    have hF := hN
    repeat (first | refine wD1 ?_ | refine wD2 ?_ | refine wE1 ?_ | refine wE2 ?_ | (refine wE3 ?_; intro _) | (refine wE4 ?_; intro _) | refine wN ?_ | ((with_reducible show evIs _ (_ :: _) _ _); first | refine wQ ?_ | refine wF ?_ | refine wG ?_ | refine wT ?_ | refine wM ?_ | refine wS ?_ | refine wP ?_ | refine wJ ?_ | refine wX ?_ | refine wY ?_))
    clear hF
    repeat refine evDone ?_
    try (show AW _ _ _ _ _)
    repeat refine AW.seq ?_
    refine AW.condT (by simp []) (by simp []) ?_
    refine AW.fit (st' := mkS [(0, .hdr R 0 (A.length + 1)), (3, .ptr N 0 0), (4, .sl .ext []), (5, .ptr (N + 2) 0 0), (6, .ptr (N + 3) 0 0), (7, .bool false), (8, .bool false), (9, .int .i64 A.length), (10, .ptr (N + 334) 0 0), (11, .ptr (N + 358) 0 0), (46, .int .i64 3)] [(R, ⟨5, true, A.map Frame.ao ++ [.agg [.int .i64 fn, .int .i64 pc, .hdr (N + 300) 0 slots.length, .sl .fro (avs stack), .hdr (N + 301) 0 (ms.length + 1)]]⟩), (N + 300, ⟨5, false, avs slots⟩), (N + 301, ⟨10, false, ms.map Mark.av ++ [.agg [.int .i64 3, .int .i64 target, .int .i64 slot, .int .i64 height, .sl .fro (us.map Undo.av), .int .i64 tk, .int .i64 tn, .str tt, .sl .fro (avs ti), .sl .fro (ts.map .str)]]⟩), (N, ⟨5, true, [.agg [.int .i64 a, .int .i64 b, .str c, .sl .fro (avs d), .sl .fro (e.map .str)]]⟩), (N + 2, ⟨5, true, [.agg [.int .i64 0, .int .i64 0, .str ⟨#[]⟩, .sl .ext [], .sl .ext []]]⟩), (N + 3, ⟨2, true, [.agg [.int .i64 0, .sl .ext []]]⟩), (N + 334, ⟨5, true, [.agg [.int .i64 fn, .int .i64 pc, .hdr (N + 300) 0 slots.length, .sl .fro (avs stack), .hdr (N + 301) 0 (ms.length + 1)]]⟩), (N + 358, ⟨10, true, [.agg [.int .i64 3, .int .i64 target, .int .i64 slot, .int .i64 height, .sl .fro (us.map Undo.av), .int .i64 tk, .int .i64 tn, .str tt, .sl .fro (avs ti), .sl .fro (ts.map .str)]]⟩)] (N + 400)) ?_ ?_
    · refine Fit.mk _ _ _ (by simp [hN, conv2, newEmp, convs_refl, convs, conv]) (by simp [hN, heapFit, newEmp, conv2s, conv2, convs_refl, convs, conv]) (by intro q hq; first | (simp at hq; done) | (simp at hq; omega) | (simp at hq; simp; omega))
    refine r_saga3 A ms fn pc slots stack target slot height us tk tn tt ti ts a b c d e N R hRN H0 (by simp [hH, mkH, hupd]) hkA hml _ ?_
    have hnext : oks (A ++ [⟨fn, pc, slots, cutS stack height, ms ++ [⟨3, target, slot, height, us, tk, tn, tt, ti, ts⟩]⟩]) := by
      refine oks_snoc.2 ⟨hAok, frame_keeps hfok hfok.1.1 rfl (cutS_ok hfok.1.2.2.1 _) (cutS_len _ _) (by simp) ?_⟩
      intro x hx
      simp only [List.mem_append, List.mem_singleton] at hx
      rcases hx with hx | rfl
      · exact hfok.1.2.2.2.2.2 x (by simp [hx])
      · exact hmo
    rcases snoc_cases us with rfl | ⟨us, ⟨wf, wa⟩, rfl⟩
    · rw [show stepM A _ ms _ _ = .go (A ++ [⟨fn, pc, slots, cutS stack height, ms⟩]) (Val.mk tk tn tt ti ts) by simp [stepM, Mark.now, Mark.thr, Mark.th]] at ho
      subst ho
      refine r_next_end A ms fn pc slots stack (cutS stack height) target slot height tk tn tt ti ts a b c d e N R hRN H0 (by simp [hH, mkH, hupd]) hkA hml _ hnext ?_
      exact fun s h => h
    · rw [show stepM A _ ms _ _ = .done (A ++ [⟨fn, pc, slots, cutS stack height, ms ++ [⟨3, target, slot, height, us, tk, tn, tt, ti, ts⟩]⟩]) ⟨wf, wa⟩ true by simp [stepM, Mark.now, Mark.thr, Mark.th]] at ho
      subst ho
      simp only [List.map_append, List.map_cons, List.map_nil, Undo.av]
      refine r_next_undo A ms fn pc slots stack (cutS stack height) target slot height tk tn tt ti ts a b c d e N R hRN H0 (by simp [hH, mkH, hupd]) hkA hml _ us wf wa hnext ?_
      exact fun s h => h
  rw [show stepM A _ ms _ _ = .go (A ++ [⟨fn, pc, slots, stack, ms⟩]) (Val.mk a b c d e) by simp [stepM, k1, k2, k3]] at ho
  subst ho
  repeat (first
    | refine evD1 rfl rfl rfl ?_
    | refine evD2 rfl rfl rfl ?_
    | (refine evD1g rfl rfl rfl ?_ ?_; (focus (simp [k1, hN]; done)))
    | (refine evD2g rfl rfl rfl ?_ ?_; (focus (simp [k1, hN]; done)))
    | (refine evN ?_ ?_; (focus (first | exact trivial | (simp [k1, hN, wsOf, List.lookup, rechecks, recheck, ok1, val1]; done))))
    | (with_reducible show evIs _ (_ :: _) _ _
       first
        | (refine evQ rfl rfl rfl (by conv => lhs; (try simp [k1, hN])) ?_ ?_; (focus (simp [k1, hN]; done)))
        | (refine evF rfl rfl ?_ ?_ ?_; (focus (simp [k1, hN]; done)); (focus (simp [k1, hN]; done)))
        | (refine evG rfl rfl rfl (by conv => lhs; (try simp [k1, hN])) (by conv => lhs; (try simp [k1, hN])) ?_ ?_ ?_; (focus (simp [k1, hN]; done)); (focus (simp [k1, hN]; done)))
        | (refine evT1 rfl ?_ rfl ?_ ?_; (focus (simp [k1, hN]; done)); (focus (simp [k1, hN]; done)))
        | (refine evM rfl rfl rfl (by conv => lhs; (try simp)) (by conv => lhs; (try simp [k1, hN])) ?_ ?_; (focus (simp [k1, hN]; done)))
        | (refine evS rfl rfl rfl (by conv => lhs; (try simp [k1, hN])) (by conv => lhs; (try simp [k1, hN])) (by conv => lhs; (try simp [k1, hN, storeS, putAt, reCells, usedE])) ?_ ?_ ?_ ?_; (focus (simp [k1, hN]; done)); (focus (simp [k1, hN]; done)); (focus (simp [k1, hN, storeOk]; done)))
        | (refine evAp rfl rfl rfl (by conv => lhs; (try simp)) (by conv => lhs; (try simp [k1, hN])) (by conv => lhs; (try simp [k1, hN])) (by conv => lhs; (try simp [k1, hN, appS])) (by conv => lhs; (try simp [k1, hN])) ?_ ?_ ?_ ?_; (focus (simp [k1, hN]; done)); (focus (simp [k1, hN]; done)); (focus (simp [k1, hN, appOk]; done)))))
  repeat refine evDone ?_
  try (show AW _ _ _ _ _)
  repeat refine AW.seq ?_
  refine AW.condF (by simp [k1]) (by simp [k1]) ?_
  repeat refine AW.seq ?_
  refine AW.reg ?_
  repeat (first
    | refine evD1 rfl rfl rfl ?_
    | refine evD2 rfl rfl rfl ?_
    | (refine evD1g rfl rfl rfl ?_ ?_; (focus (simp [k2, hN]; done)))
    | (refine evD2g rfl rfl rfl ?_ ?_; (focus (simp [k2, hN]; done)))
    | (refine evN ?_ ?_; (focus (first | exact trivial | (simp [k2, hN, wsOf, List.lookup, rechecks, recheck, ok1, val1]; done))))
    | (with_reducible show evIs _ (_ :: _) _ _
       first
        | (refine evQ rfl rfl rfl (by conv => lhs; (try simp [k2, hN])) ?_ ?_; (focus (simp [k2, hN]; done)))
        | (refine evF rfl rfl ?_ ?_ ?_; (focus (simp [k2, hN]; done)); (focus (simp [k2, hN]; done)))
        | (refine evG rfl rfl rfl (by conv => lhs; (try simp [k2, hN])) (by conv => lhs; (try simp [k2, hN])) ?_ ?_ ?_; (focus (simp [k2, hN]; done)); (focus (simp [k2, hN]; done)))
        | (refine evT1 rfl ?_ rfl ?_ ?_; (focus (simp [k2, hN]; done)); (focus (simp [k2, hN]; done)))
        | (refine evM rfl rfl rfl (by conv => lhs; (try simp)) (by conv => lhs; (try simp [k2, hN])) ?_ ?_; (focus (simp [k2, hN]; done)))
        | (refine evS rfl rfl rfl (by conv => lhs; (try simp [k2, hN])) (by conv => lhs; (try simp [k2, hN])) (by conv => lhs; (try simp [k2, hN, storeS, putAt, reCells, usedE])) ?_ ?_ ?_ ?_; (focus (simp [k2, hN]; done)); (focus (simp [k2, hN]; done)); (focus (simp [k2, hN, storeOk]; done)))
        | (refine evAp rfl rfl rfl (by conv => lhs; (try simp)) (by conv => lhs; (try simp [k2, hN])) (by conv => lhs; (try simp [k2, hN])) (by conv => lhs; (try simp [k2, hN, appS])) (by conv => lhs; (try simp [k2, hN])) ?_ ?_ ?_ ?_; (focus (simp [k2, hN]; done)); (focus (simp [k2, hN]; done)); (focus (simp [k2, hN, appOk]; done)))))
  repeat refine evDone ?_
  try (show AW _ _ _ _ _)
  repeat refine AW.seq ?_
  refine AW.condF (by simp [k2]) (by simp [k2]) ?_
  repeat refine AW.seq ?_
  refine AW.reg ?_
  repeat (first
    | refine evD1 rfl rfl rfl ?_
    | refine evD2 rfl rfl rfl ?_
    | (refine evD1g rfl rfl rfl ?_ ?_; (focus (simp [k3, hN]; done)))
    | (refine evD2g rfl rfl rfl ?_ ?_; (focus (simp [k3, hN]; done)))
    | (refine evN ?_ ?_; (focus (first | exact trivial | (simp [k3, hN, wsOf, List.lookup, rechecks, recheck, ok1, val1]; done))))
    | (with_reducible show evIs _ (_ :: _) _ _
       first
        | (refine evQ rfl rfl rfl (by conv => lhs; (try simp [k3, hN])) ?_ ?_; (focus (simp [k3, hN]; done)))
        | (refine evF rfl rfl ?_ ?_ ?_; (focus (simp [k3, hN]; done)); (focus (simp [k3, hN]; done)))
        | (refine evG rfl rfl rfl (by conv => lhs; (try simp [k3, hN])) (by conv => lhs; (try simp [k3, hN])) ?_ ?_ ?_; (focus (simp [k3, hN]; done)); (focus (simp [k3, hN]; done)))
        | (refine evT1 rfl ?_ rfl ?_ ?_; (focus (simp [k3, hN]; done)); (focus (simp [k3, hN]; done)))
        | (refine evM rfl rfl rfl (by conv => lhs; (try simp)) (by conv => lhs; (try simp [k3, hN])) ?_ ?_; (focus (simp [k3, hN]; done)))
        | (refine evS rfl rfl rfl (by conv => lhs; (try simp [k3, hN])) (by conv => lhs; (try simp [k3, hN])) (by conv => lhs; (try simp [k3, hN, storeS, putAt, reCells, usedE])) ?_ ?_ ?_ ?_; (focus (simp [k3, hN]; done)); (focus (simp [k3, hN]; done)); (focus (simp [k3, hN, storeOk]; done)))
        | (refine evAp rfl rfl rfl (by conv => lhs; (try simp)) (by conv => lhs; (try simp [k3, hN])) (by conv => lhs; (try simp [k3, hN])) (by conv => lhs; (try simp [k3, hN, appS])) (by conv => lhs; (try simp [k3, hN])) ?_ ?_ ?_ ?_; (focus (simp [k3, hN]; done)); (focus (simp [k3, hN]; done)); (focus (simp [k3, hN, appOk]; done)))))
  repeat refine evDone ?_
  try (show AW _ _ _ _ _)
  repeat refine AW.seq ?_
  refine AW.condF (by simp [k3]) (by simp [k3]) ?_
  refine AW.skip ?_
  show AW _ _ _ _ _
  refine AW.fit (st' := mkS [(0, .hdr R 0 (A.length + 1)), (3, .ptr N 0 0), (4, .sl .ext []), (5, .ptr (N + 2) 0 0), (6, .ptr (N + 3) 0 0), (7, .bool false), (8, .bool false), (9, .int .i64 A.length), (10, .ptr (N + 334) 0 0), (11, .ptr (N + 358) 0 0), (46, .int .i64 kind)] [(R, ⟨5, true, A.map Frame.ao ++ [.agg [.int .i64 fn, .int .i64 pc, .hdr (N + 300) 0 slots.length, .sl .fro (avs stack), .hdr (N + 301) 0 (ms.length + 1)]]⟩), (N + 300, ⟨5, false, avs slots⟩), (N + 301, ⟨10, false, ms.map Mark.av ++ [.agg [.int .i64 kind, .int .i64 target, .int .i64 slot, .int .i64 height, .sl .fro (us.map Undo.av), .int .i64 tk, .int .i64 tn, .str tt, .sl .fro (avs ti), .sl .fro (ts.map .str)]]⟩), (N, ⟨5, true, [.agg [.int .i64 a, .int .i64 b, .str c, .sl .fro (avs d), .sl .fro (e.map .str)]]⟩), (N + 2, ⟨5, true, [.agg [.int .i64 0, .int .i64 0, .str ⟨#[]⟩, .sl .ext [], .sl .ext []]]⟩), (N + 3, ⟨2, true, [.agg [.int .i64 0, .sl .ext []]]⟩), (N + 334, ⟨5, true, [.agg [.int .i64 fn, .int .i64 pc, .hdr (N + 300) 0 slots.length, .sl .fro (avs stack), .hdr (N + 301) 0 (ms.length + 1)]]⟩), (N + 358, ⟨10, true, [.agg [.int .i64 kind, .int .i64 target, .int .i64 slot, .int .i64 height, .sl .fro (us.map Undo.av), .int .i64 tk, .int .i64 tn, .str tt, .sl .fro (avs ti), .sl .fro (ts.map .str)]]⟩)] (N + 400)) ?_ ?_
  · refine Fit.mk _ _ _ (by simp [hN, conv2, newEmp, convs_refl, convs, conv]) (by simp [hN, heapFit, newEmp, conv2s, conv2, convs_refl, convs, conv]) (by intro q hq; first | (simp at hq; done) | (simp at hq; omega) | (simp at hq; simp; omega))
  refine r_other A ms fn pc slots stack kind target slot height us tk tn tt ti ts a b c d e N R hRN H0 (by simp [hH, mkH, hupd]) hkA hml _ ?_
  exact fun s h => h
end Go.Proofs.Ytafkaofaioleiaa

set_option linter.unusedSimpArgs false
set_option linter.unusedVariables false
set_option maxHeartbeats 16000000
namespace Go.Proofs.Ytafkaofaioleiaa
open Go Go.Amb Go.IntWalk

def StepOk (fs : List Frame) : Out → Prop
  | .go fs' v' => oks fs' ∧ v'.okv ∧ fs'.length ≤ fs.length ∧ szF fs' < szF fs
  | .done _ _ _ => True
theorem stepR_keeps (fs : List Frame) (v : Val) (h : oks fs) (hv : v.okv) : StepOk fs (stepR fs v) := by
  rcases snoc_cases fs with rfl | ⟨A, ⟨fn, pc, slots, stack, marks⟩, rfl⟩
  · trivial
  obtain ⟨hA, hf⟩ := oks_snoc.1 h
  rw [stepR_snoc]
  rcases snoc_cases marks with rfl | ⟨ms, m, rfl⟩
  · rw [stepF_nil _ _ _ rfl]
    exact ⟨hA, hv, by simp, by rw [szF_snoc]; omega⟩
  · rw [stepF_snoc _ _ _ ms m rfl]
    have := stepM_keeps' A fn pc slots stack ms m v hA hf hv
    revert this
    cases stepM A ⟨fn, pc, slots, stack, ms ++ [m]⟩ ms m v with
    | go fs' v' => exact fun ⟨a, b, c, d⟩ => ⟨a, b, by simpa using c, d⟩
    | done a b c => exact fun _ => trivial
theorem f14 (ls : List Frame) (v0 : Val) (hok : oks ls) (hb : ls.length ≤ 12) (hv0 : v0.okv) : ACall Try.prog 14 [.sl .fro (ls.map Frame.av), v0.av] (· = resT (throwF (szF ls + 1) ls v0)) := by
  have h39 := f39 ls (fun f hf => (hok f hf).1) (by omega)
  have h40 := f40 v0 hv0
  have hcv := clC_am v0
  obtain ⟨a, b, c, d, e⟩ := v0
  simp only [Val.av, Val.am] at h40 hcv ⊢
  refine a14_of (by simp) ?_
  repeat refine AW.seq ?_
  refine AW.reg ?_
  have hF := True.intro
  repeat (first | refine wD1 ?_ | refine wD2 ?_ | refine wE1 ?_ | refine wE2 ?_ | (refine wE3 ?_; intro _) | (refine wE4 ?_; intro _) | refine wN ?_ | ((with_reducible show evIs _ (_ :: _) _ _); first | refine wQ ?_ | refine wF ?_ | refine wG ?_ | refine wT ?_ | refine wM ?_ | refine wS ?_ | refine wP ?_ | refine wJ ?_ | refine wX ?_ | refine wY ?_))
  clear hF
  repeat refine evDone ?_
  try (show AW _ _ _ _ _)
  refine AW.cut (st' := mkS [(3, .ptr 0 0 0), (4, .sl .ext []), (5, .ptr 2 0 0), (6, .bool false), (7, .hdr 5 0 ls.length), (8, .ptr 8 0 0)] [(5, ⟨5, false, ls.map Frame.ao⟩), (2, ⟨2, true, [.agg [.int .i64 0, .sl .ext []]]⟩), (8, ⟨5, true, [.agg [.int .i64 a, .int .i64 b, .str c, .sl .fro (avs d), .sl .fro (e.map .str)]]⟩)] 300) ?_ ?_
  · refine AW.draw ?_
    have hF := True.intro
    repeat (first | refine wD1 ?_ | refine wD2 ?_ | refine wE1 ?_ | refine wE2 ?_ | (refine wE3 ?_; intro _) | (refine wE4 ?_; intro _) | refine wN ?_ | ((with_reducible show evIs _ (_ :: _) _ _); first | refine wQ ?_ | refine wF ?_ | refine wG ?_ | refine wT ?_ | refine wM ?_ | refine wS ?_ | refine wP ?_ | refine wJ ?_ | refine wX ?_ | refine wY ?_))
    clear hF
    repeat refine evDone ?_
    try (show AW _ _ _ _ _)
    refine evTwo ?_ ?_
    · have hF := True.intro
      repeat (first | refine wD1 ?_ | refine wD2 ?_ | refine wE1 ?_ | refine wE2 ?_ | (refine wE3 ?_; intro _) | (refine wE4 ?_; intro _) | refine wN ?_ | ((with_reducible show evIs _ (_ :: _) _ _); first | refine wQ ?_ | refine wF ?_ | refine wG ?_ | refine wT ?_ | refine wM ?_ | refine wS ?_ | refine wP ?_ | refine wJ ?_ | refine wX ?_ | refine wY ?_))
      clear hF
      repeat refine evDone ?_
      try (show AW _ _ _ _ _)
      have hF := True.intro
      refine wA (hA := h39) ?_
      clear hF
      have hF := True.intro
      repeat (first | refine wD1 ?_ | refine wD2 ?_ | refine wE1 ?_ | refine wE2 ?_ | (refine wE3 ?_; intro _) | (refine wE4 ?_; intro _) | refine wN ?_ | ((with_reducible show evIs _ (_ :: _) _ _); first | refine wQ ?_ | refine wF ?_ | refine wG ?_ | refine wT ?_ | refine wM ?_ | refine wS ?_ | refine wP ?_ | refine wJ ?_ | refine wX ?_ | refine wY ?_))
      clear hF
      repeat refine evDone ?_
      try (show AW _ _ _ _ _)
      refine evTwo ?_ ?_
      · have hF := True.intro
        repeat (first | refine wD1 ?_ | refine wD2 ?_ | refine wE1 ?_ | refine wE2 ?_ | (refine wE3 ?_; intro _) | (refine wE4 ?_; intro _) | refine wN ?_ | ((with_reducible show evIs _ (_ :: _) _ _); first | refine wQ ?_ | refine wF ?_ | refine wG ?_ | refine wT ?_ | refine wM ?_ | refine wS ?_ | refine wP ?_ | refine wJ ?_ | refine wX ?_ | refine wY ?_))
        clear hF
        repeat refine evDone ?_
        try (show AW _ _ _ _ _)
        have hF := hcv
        refine wC (hA := h40) ?_
        clear hF
        have hF := True.intro
        repeat (first | refine wD1 ?_ | refine wD2 ?_ | refine wE1 ?_ | refine wE2 ?_ | (refine wE3 ?_; intro _) | (refine wE4 ?_; intro _) | refine wN ?_ | ((with_reducible show evIs _ (_ :: _) _ _); first | refine wQ ?_ | refine wF ?_ | refine wG ?_ | refine wT ?_ | refine wM ?_ | refine wS ?_ | refine wP ?_ | refine wJ ?_ | refine wX ?_ | refine wY ?_))
        clear hF
        repeat refine evDone ?_
        try (show AW _ _ _ _ _)
        refine ⟨rfl, ?_⟩
        refine Fit.mk _ _ _ (by simp [Val.av, conv2, newEmp, convs_refl, convs, conv]) (by simp [Val.av, heapFit, newEmp, conv2s, conv2, convs_refl, convs, conv]) (by intro q hq; first | (simp at hq; done) | (simp at hq; omega) | (simp at hq; simp; omega))
      · have hF := True.intro
        repeat (first | refine wD1 ?_ | refine wD2 ?_ | refine wE1 ?_ | refine wE2 ?_ | (refine wE3 ?_; intro _) | (refine wE4 ?_; intro _) | refine wN ?_ | ((with_reducible show evIs _ (_ :: _) _ _); first | refine wQ ?_ | refine wF ?_ | refine wG ?_ | refine wT ?_ | refine wM ?_ | refine wS ?_ | refine wP ?_ | refine wJ ?_ | refine wX ?_ | refine wY ?_))
        clear hF
        repeat refine evDone ?_
        try (show AW _ _ _ _ _)
        have hF := hcv
        refine wC (hA := h40) ?_
        clear hF
        have hF := True.intro
        repeat (first | refine wD1 ?_ | refine wD2 ?_ | refine wE1 ?_ | refine wE2 ?_ | (refine wE3 ?_; intro _) | (refine wE4 ?_; intro _) | refine wN ?_ | ((with_reducible show evIs _ (_ :: _) _ _); first | refine wQ ?_ | refine wF ?_ | refine wG ?_ | refine wT ?_ | refine wM ?_ | refine wS ?_ | refine wP ?_ | refine wJ ?_ | refine wX ?_ | refine wY ?_))
        clear hF
        repeat refine evDone ?_
        try (show AW _ _ _ _ _)
        refine ⟨rfl, ?_⟩
        refine Fit.mk _ _ _ (by simp [Val.av, conv2, newEmp, convs_refl, convs, conv]) (by simp [Val.av, heapFit, newEmp, conv2s, conv2, convs_refl, convs, conv]) (by intro q hq; first | (simp at hq; done) | (simp at hq; omega) | (simp at hq; simp; omega))
    · have hF := True.intro
      repeat (first | refine wD1 ?_ | refine wD2 ?_ | refine wE1 ?_ | refine wE2 ?_ | (refine wE3 ?_; intro _) | (refine wE4 ?_; intro _) | refine wN ?_ | ((with_reducible show evIs _ (_ :: _) _ _); first | refine wQ ?_ | refine wF ?_ | refine wG ?_ | refine wT ?_ | refine wM ?_ | refine wS ?_ | refine wP ?_ | refine wJ ?_ | refine wX ?_ | refine wY ?_))
      clear hF
      repeat refine evDone ?_
      try (show AW _ _ _ _ _)
      have hF := True.intro
      refine wA (hA := h39) ?_
      clear hF
      have hF := True.intro
      repeat (first | refine wD1 ?_ | refine wD2 ?_ | refine wE1 ?_ | refine wE2 ?_ | (refine wE3 ?_; intro _) | (refine wE4 ?_; intro _) | refine wN ?_ | ((with_reducible show evIs _ (_ :: _) _ _); first | refine wQ ?_ | refine wF ?_ | refine wG ?_ | refine wT ?_ | refine wM ?_ | refine wS ?_ | refine wP ?_ | refine wJ ?_ | refine wX ?_ | refine wY ?_))
      clear hF
      repeat refine evDone ?_
      try (show AW _ _ _ _ _)
      have hF := hcv
      refine wC (hA := h40) ?_
      clear hF
      have hF := True.intro
      repeat (first | refine wD1 ?_ | refine wD2 ?_ | refine wE1 ?_ | refine wE2 ?_ | (refine wE3 ?_; intro _) | (refine wE4 ?_; intro _) | refine wN ?_ | ((with_reducible show evIs _ (_ :: _) _ _); first | refine wQ ?_ | refine wF ?_ | refine wG ?_ | refine wT ?_ | refine wM ?_ | refine wS ?_ | refine wP ?_ | refine wJ ?_ | refine wX ?_ | refine wY ?_))
      clear hF
      repeat refine evDone ?_
      try (show AW _ _ _ _ _)
      refine ⟨rfl, ?_⟩
      refine Fit.mk _ _ _ (by simp [Val.av, conv2, newEmp, convs_refl, convs, conv]) (by simp [Val.av, heapFit, newEmp, conv2s, conv2, convs_refl, convs, conv]) (by intro q hq; first | (simp at hq; done) | (simp at hq; omega) | (simp at hq; simp; omega))
  generalize hTT : throwF (szF ls + 1) ls (Val.mk a b c d e) = TT
  repeat refine AW.seq ?_
  refine AW.block ?_
  refine AW.loop (fun g : Nat × List Frame × Val × Nat × Nat => szF g.2.1 < g.1 ∧ throwF g.1 g.2.1 g.2.2.1 = TT ∧ oks g.2.1 ∧ g.2.2.1.okv ∧ g.2.1.length ≤ 12 ∧ g.2.2.2.1 < g.2.2.2.2 ∧ 300 ≤ g.2.2.2.2 ∧ (g.2.2.2.1 = 5 ∨ 300 ≤ g.2.2.2.1)) (fun g => mkS [(3, .ptr 0 0 0), (4, .sl .ext []), (5, .ptr 2 0 0), (6, .bool false), (7, .hdr g.2.2.2.1 0 g.2.1.length), (8, .ptr 8 0 0)] [(g.2.2.2.1, ⟨5, false, g.2.1.map Frame.ao⟩), (2, ⟨2, true, [.agg [.int .i64 0, .sl .ext []]]⟩), (8, ⟨5, true, [g.2.2.1.av]⟩)] g.2.2.2.2) (fun g => g.1) (szF ls + 1, ls, Val.mk a b c d e, 5, 300) ⟨by dsimp only; omega, hTT, hok, hv0, hb, by simp, by simp, .inl rfl⟩ ?_ ?_
  · rw [mkS_eq]
    refine Fit.mk _ _ _ (by simp [Val.av, conv2, newEmp, convs_refl, convs, conv]) (by simp [Val.av, heapFit, newEmp, conv2s, conv2, convs_refl, convs, conv]) (by intro q hq; first | (simp at hq; done) | (simp at hq; omega) | (simp at hq; simp; omega))
  clear hv0 hTT h39 h40 hcv hok hb a b c d e
  rintro ⟨K, fs, ⟨a, b, c, d, e⟩, R, n⟩ ⟨hK, hT, hfs, hv, hlen, hR, hn, hR5⟩
  dsimp only at hK hT hfs hv hlen hR hn hR5 ⊢
  obtain ⟨K, rfl⟩ : ∃ K', K = K' + 1 := ⟨K - 1, by omega⟩
  have hkp := stepR_keeps fs (Val.mk a b c d e) hfs hv
  have h41 := f41 (n + 100) R (by omega) fs (Val.mk a b c d e) hfs hlen hv
  replace hT := throwF_step K fs _ hT
  simp only [Val.av] at h41 ⊢
  have hN : (R = 8) = False ∧ (8 = R) = False ∧ (R = 2) = False ∧ (2 = R) = False ∧ (R = 0) = False ∧ (0 = R) = False ∧ (∀ q, (R = n + q) = False) ∧ (∀ q, (n + q = R) = False) ∧ (∀ q, (8 = n + q) = False) ∧ (∀ q, (n + q = 8) = False) ∧ (∀ q, (2 = n + q) = False) ∧ (∀ q, (n + q = 2) = False) ∧ (∀ q, (n + q < n) = False) ∧ (∀ q, 8 < n + q) ∧ (∀ q, 2 < n + q) ∧ 8 < n ∧ 2 < n := by
    refine ⟨?_, ?_, ?_, ?_, ?_, ?_, ?_, ?_, ?_, ?_, ?_, ?_, ?_, ?_, ?_, ?_, ?_⟩ <;> first | exact eq_false (by omega) | exact fun q => eq_false (by omega) | exact fun q => by omega | omega
  refine AW.block ?_
  cases ho : stepR fs (Val.mk a b c d e) with
  | go fs' v' =>
    rw [ho] at h41 hkp hT
    obtain ⟨x1, x2, x3, x4, x5⟩ := v'
    simp only [StepOk] at hkp
    replace hT : throwF K fs' _ = TT := hT
    obtain ⟨q1, q2, q3, q4⟩ := hkp
    repeat refine AW.seq ?_
    refine AW.reg ?_
    have hF := hN
    repeat (first | refine wD1 ?_ | refine wD2 ?_ | refine wE1 ?_ | refine wE2 ?_ | (refine wE3 ?_; intro _) | (refine wE4 ?_; intro _) | refine wN ?_ | ((with_reducible show evIs _ (_ :: _) _ _); first | refine wQ ?_ | refine wF ?_ | refine wG ?_ | refine wT ?_ | refine wM ?_ | refine wS ?_ | refine wP ?_ | refine wJ ?_ | refine wX ?_ | refine wY ?_))
    clear hF
    repeat refine evDone ?_
    try (show AW _ _ _ _ _)
    have hF := hN
    refine wL (hA := h41) ?_
    clear hF
    rintro H1 n' r ⟨R', hR', hRn, rfl, rfl⟩
    have hM : (R' = 8) = False ∧ (8 = R') = False ∧ (R' = 2) = False ∧ (2 = R') = False ∧ (R' = n + 20) = False ∧ (n + 20 = R') = False ∧ (R' = n + 21) = False ∧ (n + 21 = R') = False ∧ R' < n' + n + 1000 ∧ 8 < n' + n + 1000 ∧ 2 < n' + n + 1000 := by
      refine ⟨?_, ?_, ?_, ?_, ?_, ?_, ?_, ?_, ?_, ?_, ?_⟩ <;> first | exact eq_false (by omega) | omega
    simp only [noneU, Undo.av, Val.av, avs]
    have hF := And.intro (hM) (hN)
    repeat (first | refine wD1 ?_ | refine wD2 ?_ | refine wE1 ?_ | refine wE2 ?_ | (refine wE3 ?_; intro _) | (refine wE4 ?_; intro _) | refine wN ?_ | ((with_reducible show evIs _ (_ :: _) _ _); first | refine wQ ?_ | refine wF ?_ | refine wG ?_ | refine wT ?_ | refine wM ?_ | refine wS ?_ | refine wP ?_ | refine wJ ?_ | refine wX ?_ | refine wY ?_))
    clear hF
    repeat refine evDone ?_
    try (show AW _ _ _ _ _)
    repeat refine AW.seq ?_
    refine AW.reg ?_
    have hF := And.intro (hM) (hN)
    repeat (first | refine wD1 ?_ | refine wD2 ?_ | refine wE1 ?_ | refine wE2 ?_ | (refine wE3 ?_; intro _) | (refine wE4 ?_; intro _) | refine wN ?_ | ((with_reducible show evIs _ (_ :: _) _ _); first | refine wQ ?_ | refine wF ?_ | refine wG ?_ | refine wT ?_ | refine wM ?_ | refine wS ?_ | refine wP ?_ | refine wJ ?_ | refine wX ?_ | refine wY ?_))
    clear hF
    repeat refine evDone ?_
    try (show AW _ _ _ _ _)
    repeat refine AW.seq ?_
    refine AW.condF (by simp []) (by simp []) ?_
    refine AW.skip ?_
    show AW _ _ _ _ _
    repeat refine AW.seq ?_
    refine AW.draw ?_
    have hF := And.intro (hM) (hN)
    repeat (first | refine wD1 ?_ | refine wD2 ?_ | refine wE1 ?_ | refine wE2 ?_ | (refine wE3 ?_; intro _) | (refine wE4 ?_; intro _) | refine wN ?_ | ((with_reducible show evIs _ (_ :: _) _ _); first | refine wQ ?_ | refine wF ?_ | refine wG ?_ | refine wT ?_ | refine wM ?_ | refine wS ?_ | refine wP ?_ | refine wJ ?_ | refine wX ?_ | refine wY ?_))
    clear hF
    repeat refine evDone ?_
    try (show AW _ _ _ _ _)
    refine ⟨(K, fs', Val.mk x1 x2 x3 x4 x5, R', n' + n + 1000), ⟨by dsimp only; omega, hT, q1, q2, by dsimp only; omega, by dsimp only; omega, by dsimp only; omega, by dsimp only; omega⟩, by dsimp only; omega, ?_⟩
    refine Fit.mk _ _ _ (by simp [hM, hN, Val.av, conv2, newEmp, convs_refl, convs, conv]) (by simp [hM, hN, Val.av, heapFit, newEmp, conv2s, conv2, convs_refl, convs, conv]) (by intro q hq; first | (simp at hq; done) | (simp at hq; omega) | (simp at hq; simp; omega))
  | done fs' u ok =>
    rw [ho] at h41 hT
    replace hT : (fs', u, ok) = TT := hT
    subst hT
    obtain ⟨u1, u2⟩ := u
    cases ok with
    | false =>
      repeat refine AW.seq ?_
      refine AW.reg ?_
      have hF := hN
      repeat (first | refine wD1 ?_ | refine wD2 ?_ | refine wE1 ?_ | refine wE2 ?_ | (refine wE3 ?_; intro _) | (refine wE4 ?_; intro _) | refine wN ?_ | ((with_reducible show evIs _ (_ :: _) _ _); first | refine wQ ?_ | refine wF ?_ | refine wG ?_ | refine wT ?_ | refine wM ?_ | refine wS ?_ | refine wP ?_ | refine wJ ?_ | refine wX ?_ | refine wY ?_))
      clear hF
      repeat refine evDone ?_
      try (show AW _ _ _ _ _)
      have hF := hN
      refine wL (hA := h41) ?_
      clear hF
      rintro H1 n' r ⟨v', rfl, rfl⟩
      obtain ⟨x1, x2, x3, x4, x5⟩ := v'
      simp only [Undo.av, Val.av]
      have hF := hN
      repeat (first | refine wD1 ?_ | refine wD2 ?_ | refine wE1 ?_ | refine wE2 ?_ | (refine wE3 ?_; intro _) | (refine wE4 ?_; intro _) | refine wN ?_ | ((with_reducible show evIs _ (_ :: _) _ _); first | refine wQ ?_ | refine wF ?_ | refine wG ?_ | refine wT ?_ | refine wM ?_ | refine wS ?_ | refine wP ?_ | refine wJ ?_ | refine wX ?_ | refine wY ?_))
      clear hF
      repeat refine evDone ?_
      try (show AW _ _ _ _ _)
      repeat refine AW.seq ?_
      refine AW.reg ?_
      have hF := hN
      repeat (first | refine wD1 ?_ | refine wD2 ?_ | refine wE1 ?_ | refine wE2 ?_ | (refine wE3 ?_; intro _) | (refine wE4 ?_; intro _) | refine wN ?_ | ((with_reducible show evIs _ (_ :: _) _ _); first | refine wQ ?_ | refine wF ?_ | refine wG ?_ | refine wT ?_ | refine wM ?_ | refine wS ?_ | refine wP ?_ | refine wJ ?_ | refine wX ?_ | refine wY ?_))
      clear hF
      repeat refine evDone ?_
      try (show AW _ _ _ _ _)
      repeat refine AW.seq ?_
      refine AW.condT (by simp []) (by simp []) ?_
      repeat refine AW.seq ?_
      refine AW.draw ?_
      have hF := hN
      repeat (first | refine wD1 ?_ | refine wD2 ?_ | refine wE1 ?_ | refine wE2 ?_ | (refine wE3 ?_; intro _) | (refine wE4 ?_; intro _) | refine wN ?_ | ((with_reducible show evIs _ (_ :: _) _ _); first | refine wQ ?_ | refine wF ?_ | refine wG ?_ | refine wT ?_ | refine wM ?_ | refine wS ?_ | refine wP ?_ | refine wJ ?_ | refine wX ?_ | refine wY ?_))
      clear hF
      repeat refine evDone ?_
      try (show AW _ _ _ _ _)
      refine AW.ret (retI (r := resT (fs', ⟨u1, u2⟩, false)) rfl ?_)
      simp [resT, Undo.av, a14_res, hN, resOk, resP, resV, ARes.op, R2s, R2, R1s, R1, closeOk, closeV]
    | true =>
      repeat refine AW.seq ?_
      refine AW.reg ?_
      have hF := hN
      repeat (first | refine wD1 ?_ | refine wD2 ?_ | refine wE1 ?_ | refine wE2 ?_ | (refine wE3 ?_; intro _) | (refine wE4 ?_; intro _) | refine wN ?_ | ((with_reducible show evIs _ (_ :: _) _ _); first | refine wQ ?_ | refine wF ?_ | refine wG ?_ | refine wT ?_ | refine wM ?_ | refine wS ?_ | refine wP ?_ | refine wJ ?_ | refine wX ?_ | refine wY ?_))
      clear hF
      repeat refine evDone ?_
      try (show AW _ _ _ _ _)
      have hF := hN
      refine wL (hA := h41) ?_
      clear hF
      rintro H1 n' r ⟨R', v', hR', hRn, rfl, rfl⟩
      have hM : (R' = 8) = False ∧ (8 = R') = False ∧ (R' = 2) = False ∧ (2 = R') = False ∧ (R' = n + 20) = False ∧ (n + 20 = R') = False ∧ (R' = n + 21) = False ∧ (n + 21 = R') = False ∧ R' < n' + n + 1000 ∧ 8 < n' + n + 1000 ∧ 2 < n' + n + 1000 := by
        refine ⟨?_, ?_, ?_, ?_, ?_, ?_, ?_, ?_, ?_, ?_, ?_⟩ <;> first | exact eq_false (by omega) | omega
      obtain ⟨x1, x2, x3, x4, x5⟩ := v'
      have htk : (fs'.map Frame.ao).take fs'.length = fs'.map Frame.ao := List.take_of_length_le (by simp)
      simp only [Undo.av, Val.av]
      have hF := And.intro (hM) (hN)
      repeat (first | refine wD1 ?_ | refine wD2 ?_ | refine wE1 ?_ | refine wE2 ?_ | (refine wE3 ?_; intro _) | (refine wE4 ?_; intro _) | refine wN ?_ | ((with_reducible show evIs _ (_ :: _) _ _); first | refine wQ ?_ | refine wF ?_ | refine wG ?_ | refine wT ?_ | refine wM ?_ | refine wS ?_ | refine wP ?_ | refine wJ ?_ | refine wX ?_ | refine wY ?_))
      clear hF
      repeat refine evDone ?_
      try (show AW _ _ _ _ _)
      repeat refine AW.seq ?_
      refine AW.reg ?_
      have hF := And.intro (hM) (hN)
      repeat (first | refine wD1 ?_ | refine wD2 ?_ | refine wE1 ?_ | refine wE2 ?_ | (refine wE3 ?_; intro _) | (refine wE4 ?_; intro _) | refine wN ?_ | ((with_reducible show evIs _ (_ :: _) _ _); first | refine wQ ?_ | refine wF ?_ | refine wG ?_ | refine wT ?_ | refine wM ?_ | refine wS ?_ | refine wP ?_ | refine wJ ?_ | refine wX ?_ | refine wY ?_))
      clear hF
      repeat refine evDone ?_
      try (show AW _ _ _ _ _)
      repeat refine AW.seq ?_
      refine AW.condT (by simp []) (by simp []) ?_
      repeat refine AW.seq ?_
      refine AW.draw ?_
      have hF := And.intro (hM) (hN)
      repeat (first | refine wD1 ?_ | refine wD2 ?_ | refine wE1 ?_ | refine wE2 ?_ | (refine wE3 ?_; intro _) | (refine wE4 ?_; intro _) | refine wN ?_ | ((with_reducible show evIs _ (_ :: _) _ _); first | refine wQ ?_ | refine wF ?_ | refine wG ?_ | refine wT ?_ | refine wM ?_ | refine wS ?_ | refine wP ?_ | refine wJ ?_ | refine wX ?_ | refine wY ?_))
      clear hF
      repeat refine evDone ?_
      try (show AW _ _ _ _ _)
      refine AW.ret (retI (r := resT (fs', ⟨u1, u2⟩, true)) rfl ?_)
      simp [resT, Undo.av, a14_res, htk, hM, hN, resOk, resP, resV, ARes.op, R2s, R2, R1s, R1, closeOk, closeV]
end Go.Proofs.Ytafkaofaioleiaa
