/- Chapter 37, fifteenth part: queues that New did not return. -/
import Derived.Test.YtljahaeachdjmaaS2

set_option linter.unusedSimpArgs false
set_option linter.unusedVariables false
set_option maxHeartbeats 8000000
namespace Go.Proofs.Ytljahaeachdjmaa
open Go Go.Amb Go.IntWalk

/-- A queue that New did not return. -/
def zv : AV := .fptr (.agg [.sl .fro [], .bool false]) 0
theorem f22n : ACall Try.prog 22 [.nilp] (· = .tup [.agg [.int .i64 0, .int .i64 0], .bool false]) := by
  have h28 := f28n
  refine a22_of (by simp) ?_
  repeat refine AW.seq ?_
  refine AW.reg ?_
  have hF := True.intro
  repeat (first | refine wD1 ?_ | refine wD2 ?_ | refine wE1 ?_ | refine wE2 ?_ | (refine wE3 ?_; intro _) | (refine wE4 ?_; intro _) | refine wN ?_ | ((with_reducible show evIs _ (_ :: _) _ _); first | refine wQ ?_ | refine wF ?_ | refine wG ?_ | refine wT ?_ | refine wM ?_ | refine wS ?_ | refine wP ?_ | refine wJ ?_ | refine wX ?_ | refine wY ?_))
  clear hF
  repeat refine evDone ?_
  try (show AW _ _ _ _ _)
  repeat refine AW.seq ?_
  refine AW.reg ?_
  have hF := True.intro
  repeat (first | refine wD1 ?_ | refine wD2 ?_ | refine wE1 ?_ | refine wE2 ?_ | (refine wE3 ?_; intro _) | (refine wE4 ?_; intro _) | refine wN ?_ | ((with_reducible show evIs _ (_ :: _) _ _); first | refine wQ ?_ | refine wF ?_ | refine wG ?_ | refine wT ?_ | refine wM ?_ | refine wS ?_ | refine wP ?_ | refine wJ ?_ | refine wX ?_ | refine wY ?_))
  clear hF
  repeat refine evDone ?_
  try (show AW _ _ _ _ _)
  have hF := True.intro
  refine wC (hA := h28) ?_
  clear hF
  have hF := True.intro
  repeat (first | refine wD1 ?_ | refine wD2 ?_ | refine wE1 ?_ | refine wE2 ?_ | (refine wE3 ?_; intro _) | (refine wE4 ?_; intro _) | refine wN ?_ | ((with_reducible show evIs _ (_ :: _) _ _); first | refine wQ ?_ | refine wF ?_ | refine wG ?_ | refine wT ?_ | refine wM ?_ | refine wS ?_ | refine wP ?_ | refine wJ ?_ | refine wX ?_ | refine wY ?_))
  clear hF
  repeat refine evDone ?_
  try (show AW _ _ _ _ _)
  repeat refine AW.seq ?_
  refine AW.condT (by simp []) (by simp []) ?_
  repeat refine AW.seq ?_
  refine AW.reg ?_
  have hF := True.intro
  repeat (first | refine wD1 ?_ | refine wD2 ?_ | refine wE1 ?_ | refine wE2 ?_ | (refine wE3 ?_; intro _) | (refine wE4 ?_; intro _) | refine wN ?_ | ((with_reducible show evIs _ (_ :: _) _ _); first | refine wQ ?_ | refine wF ?_ | refine wG ?_ | refine wT ?_ | refine wM ?_ | refine wS ?_ | refine wP ?_ | refine wJ ?_ | refine wX ?_ | refine wY ?_))
  clear hF
  repeat refine evDone ?_
  try (show AW _ _ _ _ _)
  refine AW.ret (retI rfl ?_)
  simp [a22_res, resOk, resP, resV, ARes.op, R2s, R2, R1s, R1, closeOk, closeV]
theorem f22z : ACall Try.prog 22 [zv] (· = .tup [.agg [.int .i64 0, .int .i64 0], .bool false]) := by
  have h28 := f28 [] false
  simp only [zv, qv, items, List.map_nil] at h28 ⊢
  refine a22_of (by simp) ?_
  repeat refine AW.seq ?_
  refine AW.reg ?_
  have hF := True.intro
  repeat (first | refine wD1 ?_ | refine wD2 ?_ | refine wE1 ?_ | refine wE2 ?_ | (refine wE3 ?_; intro _) | (refine wE4 ?_; intro _) | refine wN ?_ | ((with_reducible show evIs _ (_ :: _) _ _); first | refine wQ ?_ | refine wF ?_ | refine wG ?_ | refine wT ?_ | refine wM ?_ | refine wS ?_ | refine wP ?_ | refine wJ ?_ | refine wX ?_ | refine wY ?_))
  clear hF
  repeat refine evDone ?_
  try (show AW _ _ _ _ _)
  repeat refine AW.seq ?_
  refine AW.reg ?_
  have hF := True.intro
  repeat (first | refine wD1 ?_ | refine wD2 ?_ | refine wE1 ?_ | refine wE2 ?_ | (refine wE3 ?_; intro _) | (refine wE4 ?_; intro _) | refine wN ?_ | ((with_reducible show evIs _ (_ :: _) _ _); first | refine wQ ?_ | refine wF ?_ | refine wG ?_ | refine wT ?_ | refine wM ?_ | refine wS ?_ | refine wP ?_ | refine wJ ?_ | refine wX ?_ | refine wY ?_))
  clear hF
  repeat refine evDone ?_
  try (show AW _ _ _ _ _)
  have hF := True.intro
  refine wC (hA := h28) ?_
  clear hF
  have hF := True.intro
  repeat (first | refine wD1 ?_ | refine wD2 ?_ | refine wE1 ?_ | refine wE2 ?_ | (refine wE3 ?_; intro _) | (refine wE4 ?_; intro _) | refine wN ?_ | ((with_reducible show evIs _ (_ :: _) _ _); first | refine wQ ?_ | refine wF ?_ | refine wG ?_ | refine wT ?_ | refine wM ?_ | refine wS ?_ | refine wP ?_ | refine wJ ?_ | refine wX ?_ | refine wY ?_))
  clear hF
  repeat refine evDone ?_
  try (show AW _ _ _ _ _)
  repeat refine AW.seq ?_
  refine AW.condT (by simp []) (by simp []) ?_
  repeat refine AW.seq ?_
  refine AW.reg ?_
  have hF := True.intro
  repeat (first | refine wD1 ?_ | refine wD2 ?_ | refine wE1 ?_ | refine wE2 ?_ | (refine wE3 ?_; intro _) | (refine wE4 ?_; intro _) | refine wN ?_ | ((with_reducible show evIs _ (_ :: _) _ _); first | refine wQ ?_ | refine wF ?_ | refine wG ?_ | refine wT ?_ | refine wM ?_ | refine wS ?_ | refine wP ?_ | refine wJ ?_ | refine wX ?_ | refine wY ?_))
  clear hF
  repeat refine evDone ?_
  try (show AW _ _ _ _ _)
  refine AW.ret (retI rfl ?_)
  simp [a22_res, resOk, resP, resV, ARes.op, R2s, R2, R1s, R1, closeOk, closeV]
theorem f17n (x : Item) : ACall Try.prog 17 [.nilp, x.av] (· = .int .i64 1) := by
  have h28 := f28n
  obtain ⟨x1, x2⟩ := x
  simp only [Item.av]
  refine a17_of (by simp) ?_
  repeat refine AW.seq ?_
  refine AW.reg ?_
  have hF := True.intro
  repeat (first | refine wD1 ?_ | refine wD2 ?_ | refine wE1 ?_ | refine wE2 ?_ | (refine wE3 ?_; intro _) | (refine wE4 ?_; intro _) | refine wN ?_ | ((with_reducible show evIs _ (_ :: _) _ _); first | refine wQ ?_ | refine wF ?_ | refine wG ?_ | refine wT ?_ | refine wM ?_ | refine wS ?_ | refine wP ?_ | refine wJ ?_ | refine wX ?_ | refine wY ?_))
  clear hF
  repeat refine evDone ?_
  try (show AW _ _ _ _ _)
  repeat refine AW.seq ?_
  refine AW.reg ?_
  have hF := True.intro
  repeat (first | refine wD1 ?_ | refine wD2 ?_ | refine wE1 ?_ | refine wE2 ?_ | (refine wE3 ?_; intro _) | (refine wE4 ?_; intro _) | refine wN ?_ | ((with_reducible show evIs _ (_ :: _) _ _); first | refine wQ ?_ | refine wF ?_ | refine wG ?_ | refine wT ?_ | refine wM ?_ | refine wS ?_ | refine wP ?_ | refine wJ ?_ | refine wX ?_ | refine wY ?_))
  clear hF
  repeat refine evDone ?_
  try (show AW _ _ _ _ _)
  have hF := True.intro
  refine wC (hA := h28) ?_
  clear hF
  have hF := True.intro
  repeat (first | refine wD1 ?_ | refine wD2 ?_ | refine wE1 ?_ | refine wE2 ?_ | (refine wE3 ?_; intro _) | (refine wE4 ?_; intro _) | refine wN ?_ | ((with_reducible show evIs _ (_ :: _) _ _); first | refine wQ ?_ | refine wF ?_ | refine wG ?_ | refine wT ?_ | refine wM ?_ | refine wS ?_ | refine wP ?_ | refine wJ ?_ | refine wX ?_ | refine wY ?_))
  clear hF
  repeat refine evDone ?_
  try (show AW _ _ _ _ _)
  repeat refine AW.seq ?_
  refine AW.condT (by simp []) (by simp []) ?_
  repeat refine AW.seq ?_
  refine AW.reg ?_
  have hF := True.intro
  repeat (first | refine wD1 ?_ | refine wD2 ?_ | refine wE1 ?_ | refine wE2 ?_ | (refine wE3 ?_; intro _) | (refine wE4 ?_; intro _) | refine wN ?_ | ((with_reducible show evIs _ (_ :: _) _ _); first | refine wQ ?_ | refine wF ?_ | refine wG ?_ | refine wT ?_ | refine wM ?_ | refine wS ?_ | refine wP ?_ | refine wJ ?_ | refine wX ?_ | refine wY ?_))
  clear hF
  repeat refine evDone ?_
  try (show AW _ _ _ _ _)
  refine AW.ret (retI rfl ?_)
  simp [a17_res, resOk, resP, resV, ARes.op, R2s, R2, R1s, R1, closeOk, closeV]
theorem f17z (x : Item) : ACall Try.prog 17 [zv, x.av] (· = .int .i64 1) := by
  have h28 := f28 [] false
  obtain ⟨x1, x2⟩ := x
  simp only [zv, qv, items, List.map_nil, Item.av] at h28 ⊢
  refine a17_of (by simp) ?_
  repeat refine AW.seq ?_
  refine AW.reg ?_
  have hF := True.intro
  repeat (first | refine wD1 ?_ | refine wD2 ?_ | refine wE1 ?_ | refine wE2 ?_ | (refine wE3 ?_; intro _) | (refine wE4 ?_; intro _) | refine wN ?_ | ((with_reducible show evIs _ (_ :: _) _ _); first | refine wQ ?_ | refine wF ?_ | refine wG ?_ | refine wT ?_ | refine wM ?_ | refine wS ?_ | refine wP ?_ | refine wJ ?_ | refine wX ?_ | refine wY ?_))
  clear hF
  repeat refine evDone ?_
  try (show AW _ _ _ _ _)
  repeat refine AW.seq ?_
  refine AW.reg ?_
  have hF := True.intro
  repeat (first | refine wD1 ?_ | refine wD2 ?_ | refine wE1 ?_ | refine wE2 ?_ | (refine wE3 ?_; intro _) | (refine wE4 ?_; intro _) | refine wN ?_ | ((with_reducible show evIs _ (_ :: _) _ _); first | refine wQ ?_ | refine wF ?_ | refine wG ?_ | refine wT ?_ | refine wM ?_ | refine wS ?_ | refine wP ?_ | refine wJ ?_ | refine wX ?_ | refine wY ?_))
  clear hF
  repeat refine evDone ?_
  try (show AW _ _ _ _ _)
  have hF := True.intro
  refine wC (hA := h28) ?_
  clear hF
  have hF := True.intro
  repeat (first | refine wD1 ?_ | refine wD2 ?_ | refine wE1 ?_ | refine wE2 ?_ | (refine wE3 ?_; intro _) | (refine wE4 ?_; intro _) | refine wN ?_ | ((with_reducible show evIs _ (_ :: _) _ _); first | refine wQ ?_ | refine wF ?_ | refine wG ?_ | refine wT ?_ | refine wM ?_ | refine wS ?_ | refine wP ?_ | refine wJ ?_ | refine wX ?_ | refine wY ?_))
  clear hF
  repeat refine evDone ?_
  try (show AW _ _ _ _ _)
  repeat refine AW.seq ?_
  refine AW.condT (by simp []) (by simp []) ?_
  repeat refine AW.seq ?_
  refine AW.reg ?_
  have hF := True.intro
  repeat (first | refine wD1 ?_ | refine wD2 ?_ | refine wE1 ?_ | refine wE2 ?_ | (refine wE3 ?_; intro _) | (refine wE4 ?_; intro _) | refine wN ?_ | ((with_reducible show evIs _ (_ :: _) _ _); first | refine wQ ?_ | refine wF ?_ | refine wG ?_ | refine wT ?_ | refine wM ?_ | refine wS ?_ | refine wP ?_ | refine wJ ?_ | refine wX ?_ | refine wY ?_))
  clear hF
  repeat refine evDone ?_
  try (show AW _ _ _ _ _)
  refine AW.ret (retI rfl ?_)
  simp [a17_res, resOk, resP, resV, ARes.op, R2s, R2, R1s, R1, closeOk, closeV]
theorem f12n (id : Int) : ACall Try.prog 12 [.nilp, .int .i64 id] (· = .bool false) := by
  have h28 := f28n
  refine a12_of (by simp) ?_
  repeat refine AW.seq ?_
  refine AW.reg ?_
  have hF := True.intro
  repeat (first | refine wD1 ?_ | refine wD2 ?_ | refine wE1 ?_ | refine wE2 ?_ | (refine wE3 ?_; intro _) | (refine wE4 ?_; intro _) | refine wN ?_ | ((with_reducible show evIs _ (_ :: _) _ _); first | refine wQ ?_ | refine wF ?_ | refine wG ?_ | refine wT ?_ | refine wM ?_ | refine wS ?_ | refine wP ?_ | refine wJ ?_ | refine wX ?_ | refine wY ?_))
  clear hF
  repeat refine evDone ?_
  try (show AW _ _ _ _ _)
  repeat refine AW.seq ?_
  refine AW.reg ?_
  have hF := True.intro
  repeat (first | refine wD1 ?_ | refine wD2 ?_ | refine wE1 ?_ | refine wE2 ?_ | (refine wE3 ?_; intro _) | (refine wE4 ?_; intro _) | refine wN ?_ | ((with_reducible show evIs _ (_ :: _) _ _); first | refine wQ ?_ | refine wF ?_ | refine wG ?_ | refine wT ?_ | refine wM ?_ | refine wS ?_ | refine wP ?_ | refine wJ ?_ | refine wX ?_ | refine wY ?_))
  clear hF
  repeat refine evDone ?_
  try (show AW _ _ _ _ _)
  have hF := True.intro
  refine wC (hA := h28) ?_
  clear hF
  have hF := True.intro
  repeat (first | refine wD1 ?_ | refine wD2 ?_ | refine wE1 ?_ | refine wE2 ?_ | (refine wE3 ?_; intro _) | (refine wE4 ?_; intro _) | refine wN ?_ | ((with_reducible show evIs _ (_ :: _) _ _); first | refine wQ ?_ | refine wF ?_ | refine wG ?_ | refine wT ?_ | refine wM ?_ | refine wS ?_ | refine wP ?_ | refine wJ ?_ | refine wX ?_ | refine wY ?_))
  clear hF
  repeat refine evDone ?_
  try (show AW _ _ _ _ _)
  repeat refine AW.seq ?_
  refine AW.condT (by simp []) (by simp []) ?_
  repeat refine AW.seq ?_
  refine AW.reg ?_
  have hF := True.intro
  repeat (first | refine wD1 ?_ | refine wD2 ?_ | refine wE1 ?_ | refine wE2 ?_ | (refine wE3 ?_; intro _) | (refine wE4 ?_; intro _) | refine wN ?_ | ((with_reducible show evIs _ (_ :: _) _ _); first | refine wQ ?_ | refine wF ?_ | refine wG ?_ | refine wT ?_ | refine wM ?_ | refine wS ?_ | refine wP ?_ | refine wJ ?_ | refine wX ?_ | refine wY ?_))
  clear hF
  repeat refine evDone ?_
  try (show AW _ _ _ _ _)
  refine AW.ret (retI rfl ?_)
  simp [a12_res, resOk, resP, resV, ARes.op, R2s, R2, R1s, R1, closeOk, closeV]
theorem f12z (id : Int) : ACall Try.prog 12 [zv, .int .i64 id] (· = .bool false) := by
  have h28 := f28 [] false
  simp only [zv, qv, items, List.map_nil] at h28 ⊢
  refine a12_of (by simp) ?_
  repeat refine AW.seq ?_
  refine AW.reg ?_
  have hF := True.intro
  repeat (first | refine wD1 ?_ | refine wD2 ?_ | refine wE1 ?_ | refine wE2 ?_ | (refine wE3 ?_; intro _) | (refine wE4 ?_; intro _) | refine wN ?_ | ((with_reducible show evIs _ (_ :: _) _ _); first | refine wQ ?_ | refine wF ?_ | refine wG ?_ | refine wT ?_ | refine wM ?_ | refine wS ?_ | refine wP ?_ | refine wJ ?_ | refine wX ?_ | refine wY ?_))
  clear hF
  repeat refine evDone ?_
  try (show AW _ _ _ _ _)
  repeat refine AW.seq ?_
  refine AW.reg ?_
  have hF := True.intro
  repeat (first | refine wD1 ?_ | refine wD2 ?_ | refine wE1 ?_ | refine wE2 ?_ | (refine wE3 ?_; intro _) | (refine wE4 ?_; intro _) | refine wN ?_ | ((with_reducible show evIs _ (_ :: _) _ _); first | refine wQ ?_ | refine wF ?_ | refine wG ?_ | refine wT ?_ | refine wM ?_ | refine wS ?_ | refine wP ?_ | refine wJ ?_ | refine wX ?_ | refine wY ?_))
  clear hF
  repeat refine evDone ?_
  try (show AW _ _ _ _ _)
  have hF := True.intro
  refine wC (hA := h28) ?_
  clear hF
  have hF := True.intro
  repeat (first | refine wD1 ?_ | refine wD2 ?_ | refine wE1 ?_ | refine wE2 ?_ | (refine wE3 ?_; intro _) | (refine wE4 ?_; intro _) | refine wN ?_ | ((with_reducible show evIs _ (_ :: _) _ _); first | refine wQ ?_ | refine wF ?_ | refine wG ?_ | refine wT ?_ | refine wM ?_ | refine wS ?_ | refine wP ?_ | refine wJ ?_ | refine wX ?_ | refine wY ?_))
  clear hF
  repeat refine evDone ?_
  try (show AW _ _ _ _ _)
  repeat refine AW.seq ?_
  refine AW.condT (by simp []) (by simp []) ?_
  repeat refine AW.seq ?_
  refine AW.reg ?_
  have hF := True.intro
  repeat (first | refine wD1 ?_ | refine wD2 ?_ | refine wE1 ?_ | refine wE2 ?_ | (refine wE3 ?_; intro _) | (refine wE4 ?_; intro _) | refine wN ?_ | ((with_reducible show evIs _ (_ :: _) _ _); first | refine wQ ?_ | refine wF ?_ | refine wG ?_ | refine wT ?_ | refine wM ?_ | refine wS ?_ | refine wP ?_ | refine wJ ?_ | refine wX ?_ | refine wY ?_))
  clear hF
  repeat refine evDone ?_
  try (show AW _ _ _ _ _)
  refine AW.ret (retI rfl ?_)
  simp [a12_res, resOk, resP, resV, ARes.op, R2s, R2, R1s, R1, closeOk, closeV]
theorem f25z : ACall Try.prog 25 [zv] (· = .sl .ext []) := by
  have h28 := f28 [] false
  simp only [zv, qv, items, List.map_nil] at h28 ⊢
  refine a25_of (by simp) ?_
  repeat refine AW.seq ?_
  refine AW.reg ?_
  have hF := True.intro
  repeat (first | refine wD1 ?_ | refine wD2 ?_ | refine wE1 ?_ | refine wE2 ?_ | (refine wE3 ?_; intro _) | (refine wE4 ?_; intro _) | refine wN ?_ | ((with_reducible show evIs _ (_ :: _) _ _); first | refine wQ ?_ | refine wF ?_ | refine wG ?_ | refine wT ?_ | refine wM ?_ | refine wS ?_ | refine wP ?_ | refine wJ ?_ | refine wX ?_ | refine wY ?_))
  clear hF
  repeat refine evDone ?_
  try (show AW _ _ _ _ _)
  repeat refine AW.seq ?_
  refine AW.reg ?_
  have hF := True.intro
  repeat (first | refine wD1 ?_ | refine wD2 ?_ | refine wE1 ?_ | refine wE2 ?_ | (refine wE3 ?_; intro _) | (refine wE4 ?_; intro _) | refine wN ?_ | ((with_reducible show evIs _ (_ :: _) _ _); first | refine wQ ?_ | refine wF ?_ | refine wG ?_ | refine wT ?_ | refine wM ?_ | refine wS ?_ | refine wP ?_ | refine wJ ?_ | refine wX ?_ | refine wY ?_))
  clear hF
  repeat refine evDone ?_
  try (show AW _ _ _ _ _)
  have hF := True.intro
  refine wC (hA := h28) ?_
  clear hF
  have hF := True.intro
  repeat (first | refine wD1 ?_ | refine wD2 ?_ | refine wE1 ?_ | refine wE2 ?_ | (refine wE3 ?_; intro _) | (refine wE4 ?_; intro _) | refine wN ?_ | ((with_reducible show evIs _ (_ :: _) _ _); first | refine wQ ?_ | refine wF ?_ | refine wG ?_ | refine wT ?_ | refine wM ?_ | refine wS ?_ | refine wP ?_ | refine wJ ?_ | refine wX ?_ | refine wY ?_))
  clear hF
  repeat refine evDone ?_
  try (show AW _ _ _ _ _)
  repeat refine AW.seq ?_
  refine AW.condT (by simp []) (by simp []) ?_
  repeat refine AW.seq ?_
  refine AW.reg ?_
  have hF := True.intro
  repeat (first | refine wD1 ?_ | refine wD2 ?_ | refine wE1 ?_ | refine wE2 ?_ | (refine wE3 ?_; intro _) | (refine wE4 ?_; intro _) | refine wN ?_ | ((with_reducible show evIs _ (_ :: _) _ _); first | refine wQ ?_ | refine wF ?_ | refine wG ?_ | refine wT ?_ | refine wM ?_ | refine wS ?_ | refine wP ?_ | refine wJ ?_ | refine wX ?_ | refine wY ?_))
  clear hF
  repeat refine evDone ?_
  try (show AW _ _ _ _ _)
  refine AW.ret (retI rfl ?_)
  simp [a25_res, resOk, resP, resV, ARes.op, R2s, R2, R1s, R1, closeOk, closeV]
theorem f13n (now : Int) : ACall Try.prog 13 [.nilp, .int .i64 now] (· = .sl .ext []) := by
  have h28 := f28n
  refine a13_of (by simp) ?_
  repeat refine AW.seq ?_
  refine AW.reg ?_
  have hF := True.intro
  repeat (first | refine wD1 ?_ | refine wD2 ?_ | refine wE1 ?_ | refine wE2 ?_ | (refine wE3 ?_; intro _) | (refine wE4 ?_; intro _) | refine wN ?_ | ((with_reducible show evIs _ (_ :: _) _ _); first | refine wQ ?_ | refine wF ?_ | refine wG ?_ | refine wT ?_ | refine wM ?_ | refine wS ?_ | refine wP ?_ | refine wJ ?_ | refine wX ?_ | refine wY ?_))
  clear hF
  repeat refine evDone ?_
  try (show AW _ _ _ _ _)
  repeat refine AW.seq ?_
  refine AW.reg ?_
  have hF := True.intro
  repeat (first | refine wD1 ?_ | refine wD2 ?_ | refine wE1 ?_ | refine wE2 ?_ | (refine wE3 ?_; intro _) | (refine wE4 ?_; intro _) | refine wN ?_ | ((with_reducible show evIs _ (_ :: _) _ _); first | refine wQ ?_ | refine wF ?_ | refine wG ?_ | refine wT ?_ | refine wM ?_ | refine wS ?_ | refine wP ?_ | refine wJ ?_ | refine wX ?_ | refine wY ?_))
  clear hF
  repeat refine evDone ?_
  try (show AW _ _ _ _ _)
  repeat refine AW.seq ?_
  refine AW.block ?_
  refine AW.loop (fun _ : Nat => True) (fun _ : Nat => mkS [(0, .nilp), (1, .int .i64 now), (5, .sl .ext [])] [] 0) (fun i => i) 0 trivial ?_ ?_
  · refine Fit.mk _ _ _ (by simp [conv2, newEmp, convs_refl, convs, conv]) (by simp [heapFit, newEmp, conv2s, conv2, convs_refl, convs, conv]) (by intro q hq; first | (simp at hq; done) | (simp at hq; omega) | (simp at hq; simp; omega))
  · intro i _
    repeat refine AW.seq ?_
    refine AW.reg ?_
    have hF := True.intro
    repeat (first | refine wD1 ?_ | refine wD2 ?_ | refine wE1 ?_ | refine wE2 ?_ | (refine wE3 ?_; intro _) | (refine wE4 ?_; intro _) | refine wN ?_ | ((with_reducible show evIs _ (_ :: _) _ _); first | refine wQ ?_ | refine wF ?_ | refine wG ?_ | refine wT ?_ | refine wM ?_ | refine wS ?_ | refine wP ?_ | refine wJ ?_ | refine wX ?_ | refine wY ?_))
    clear hF
    repeat refine evDone ?_
    try (show AW _ _ _ _ _)
    have hF := True.intro
    refine wC (hA := h28) ?_
    clear hF
    have hF := True.intro
    repeat (first | refine wD1 ?_ | refine wD2 ?_ | refine wE1 ?_ | refine wE2 ?_ | (refine wE3 ?_; intro _) | (refine wE4 ?_; intro _) | refine wN ?_ | ((with_reducible show evIs _ (_ :: _) _ _); first | refine wQ ?_ | refine wF ?_ | refine wG ?_ | refine wT ?_ | refine wM ?_ | refine wS ?_ | refine wP ?_ | refine wJ ?_ | refine wX ?_ | refine wY ?_))
    clear hF
    repeat refine evDone ?_
    try (show AW _ _ _ _ _)
    repeat refine AW.seq ?_
    refine AW.condF (by simp []) (by simp []) ?_
    refine AW.exit ?_
    show AW _ _ _ _ _
    repeat refine AW.seq ?_
    refine AW.reg ?_
    have hF := True.intro
    repeat (first | refine wD1 ?_ | refine wD2 ?_ | refine wE1 ?_ | refine wE2 ?_ | (refine wE3 ?_; intro _) | (refine wE4 ?_; intro _) | refine wN ?_ | ((with_reducible show evIs _ (_ :: _) _ _); first | refine wQ ?_ | refine wF ?_ | refine wG ?_ | refine wT ?_ | refine wM ?_ | refine wS ?_ | refine wP ?_ | refine wJ ?_ | refine wX ?_ | refine wY ?_))
    clear hF
    repeat refine evDone ?_
    try (show AW _ _ _ _ _)
    refine AW.ret (retI rfl ?_)
    simp [a13_res, resOk, resP, resV, ARes.op, R2s, R2, R1s, R1, closeOk, closeV]
theorem f15e : ACall Try.prog 15 [zv] (· = .int .i64 0) := by
  have h28 := f28 [] false
  simp only [zv, qv, items, List.map_nil] at h28 ⊢
  refine a15_of (by simp) ?_
  repeat refine AW.seq ?_
  refine AW.reg ?_
  have hF := True.intro
  repeat (first | refine wD1 ?_ | refine wD2 ?_ | refine wE1 ?_ | refine wE2 ?_ | (refine wE3 ?_; intro _) | (refine wE4 ?_; intro _) | refine wN ?_ | ((with_reducible show evIs _ (_ :: _) _ _); first | refine wQ ?_ | refine wF ?_ | refine wG ?_ | refine wT ?_ | refine wM ?_ | refine wS ?_ | refine wP ?_ | refine wJ ?_ | refine wX ?_ | refine wY ?_))
  clear hF
  repeat refine evDone ?_
  try (show AW _ _ _ _ _)
  repeat refine AW.seq ?_
  refine AW.reg ?_
  have hF := True.intro
  repeat (first | refine wD1 ?_ | refine wD2 ?_ | refine wE1 ?_ | refine wE2 ?_ | (refine wE3 ?_; intro _) | (refine wE4 ?_; intro _) | refine wN ?_ | ((with_reducible show evIs _ (_ :: _) _ _); first | refine wQ ?_ | refine wF ?_ | refine wG ?_ | refine wT ?_ | refine wM ?_ | refine wS ?_ | refine wP ?_ | refine wJ ?_ | refine wX ?_ | refine wY ?_))
  clear hF
  repeat refine evDone ?_
  try (show AW _ _ _ _ _)
  have hF := True.intro
  refine wC (hA := h28) ?_
  clear hF
  have hF := True.intro
  repeat (first | refine wD1 ?_ | refine wD2 ?_ | refine wE1 ?_ | refine wE2 ?_ | (refine wE3 ?_; intro _) | (refine wE4 ?_; intro _) | refine wN ?_ | ((with_reducible show evIs _ (_ :: _) _ _); first | refine wQ ?_ | refine wF ?_ | refine wG ?_ | refine wT ?_ | refine wM ?_ | refine wS ?_ | refine wP ?_ | refine wJ ?_ | refine wX ?_ | refine wY ?_))
  clear hF
  repeat refine evDone ?_
  try (show AW _ _ _ _ _)
  repeat refine AW.seq ?_
  refine AW.condT (by simp []) (by simp []) ?_
  repeat refine AW.seq ?_
  refine AW.reg ?_
  have hF := True.intro
  repeat (first | refine wD1 ?_ | refine wD2 ?_ | refine wE1 ?_ | refine wE2 ?_ | (refine wE3 ?_; intro _) | (refine wE4 ?_; intro _) | refine wN ?_ | ((with_reducible show evIs _ (_ :: _) _ _); first | refine wQ ?_ | refine wF ?_ | refine wG ?_ | refine wT ?_ | refine wM ?_ | refine wS ?_ | refine wP ?_ | refine wJ ?_ | refine wX ?_ | refine wY ?_))
  clear hF
  repeat refine evDone ?_
  try (show AW _ _ _ _ _)
  refine AW.ret (retI rfl ?_)
  simp [a15_res, resOk, resP, resV, ARes.op, R2s, R2, R1s, R1, closeOk, closeV]
theorem f7 (a b : Int) : ACall Try.prog 7 [.agg [.int .i64 a, .int .i64 b]] (· = .bool true) := by
  have hw := works
  have h22n := f22n
  have h22z := f22z
  have h17n := f17n ⟨a, b⟩
  have h17z := f17z ⟨a, b⟩
  have h12n := f12n b
  have h12z := f12z b
  have h13n := f13n a
  have h25z := f25z
  have h15z := f15e
  have h15n := f15n
  have hma : (∀ (fh fq : Nat → Nat → Nat → AV) (cs : List AV), mapA fh fq (.agg cs) = .agg (cs.map (mapA fh fq))) ∧ (∀ (fh fq : Nat → Nat → Nat → AV) (b : Bool), mapA fh fq (.bool b) = .bool b) ∧ (∀ (fh fq : Nat → Nat → Nat → AV) (n : Int), mapA fh fq (.int .i64 n) = .int .i64 n) := by
    refine ⟨?_, ?_, ?_⟩ <;> intros <;> simp [mapA, mapAs_eq]
  have hme : ∀ (fh fq : Nat → Nat → Nat → AV), mapA fh fq (.sl .ext []) = .sl .fro [] := by
    intros; simp [mapA, mapAs_eq]
  have hw0 : IntKind.i64.wrap 0 = 0 := i64_in _ ⟨by omega, by omega⟩
  simp only [zv, Item.av] at h22z h17n h17z h12z h25z h15z ⊢
  refine a7_of (by simp) ?_
  repeat refine AW.seq ?_
  refine AW.reg ?_
  have hF := True.intro
  repeat (first | refine wD1 ?_ | refine wD2 ?_ | refine wE1 ?_ | refine wE2 ?_ | (refine wE3 ?_; intro _) | (refine wE4 ?_; intro _) | refine wN ?_ | ((with_reducible show evIs _ (_ :: _) _ _); first | refine wQ ?_ | refine wF ?_ | refine wG ?_ | refine wT ?_ | refine wM ?_ | refine wS ?_ | refine wP ?_ | refine wJ ?_ | refine wX ?_ | refine wY ?_))
  clear hF
  repeat refine evDone ?_
  try (show AW _ _ _ _ _)
  repeat refine AW.seq ?_
  refine AW.reg ?_
  have hF := True.intro
  repeat (first | refine wD1 ?_ | refine wD2 ?_ | refine wE1 ?_ | refine wE2 ?_ | (refine wE3 ?_; intro _) | (refine wE4 ?_; intro _) | refine wN ?_ | ((with_reducible show evIs _ (_ :: _) _ _); first | refine wQ ?_ | refine wF ?_ | refine wG ?_ | refine wT ?_ | refine wM ?_ | refine wS ?_ | refine wP ?_ | refine wJ ?_ | refine wX ?_ | refine wY ?_))
  clear hF
  repeat refine evDone ?_
  try (show AW _ _ _ _ _)
  repeat refine AW.seq ?_
  refine AW.reg ?_
  have hF := True.intro
  repeat (first | refine wD1 ?_ | refine wD2 ?_ | refine wE1 ?_ | refine wE2 ?_ | (refine wE3 ?_; intro _) | (refine wE4 ?_; intro _) | refine wN ?_ | ((with_reducible show evIs _ (_ :: _) _ _); first | refine wQ ?_ | refine wF ?_ | refine wG ?_ | refine wT ?_ | refine wM ?_ | refine wS ?_ | refine wP ?_ | refine wJ ?_ | refine wX ?_ | refine wY ?_))
  clear hF
  repeat refine evDone ?_
  try (show AW _ _ _ _ _)
  repeat refine AW.seq ?_
  refine AW.reg ?_
  have hF := True.intro
  repeat (first | refine wD1 ?_ | refine wD2 ?_ | refine wE1 ?_ | refine wE2 ?_ | (refine wE3 ?_; intro _) | (refine wE4 ?_; intro _) | refine wN ?_ | ((with_reducible show evIs _ (_ :: _) _ _); first | refine wQ ?_ | refine wF ?_ | refine wG ?_ | refine wT ?_ | refine wM ?_ | refine wS ?_ | refine wP ?_ | refine wJ ?_ | refine wX ?_ | refine wY ?_))
  clear hF
  repeat refine evDone ?_
  try (show AW _ _ _ _ _)
  have hF := True.intro
  refine wC (hA := h22n) ?_
  clear hF
  have hF := True.intro
  repeat (first | refine wD1 ?_ | refine wD2 ?_ | refine wE1 ?_ | refine wE2 ?_ | (refine wE3 ?_; intro _) | (refine wE4 ?_; intro _) | refine wN ?_ | ((with_reducible show evIs _ (_ :: _) _ _); first | refine wQ ?_ | refine wF ?_ | refine wG ?_ | refine wT ?_ | refine wM ?_ | refine wS ?_ | refine wP ?_ | refine wJ ?_ | refine wX ?_ | refine wY ?_))
  clear hF
  repeat refine evDone ?_
  try (show AW _ _ _ _ _)
  repeat refine AW.seq ?_
  refine AW.reg ?_
  have hF := True.intro
  repeat (first | refine wD1 ?_ | refine wD2 ?_ | refine wE1 ?_ | refine wE2 ?_ | (refine wE3 ?_; intro _) | (refine wE4 ?_; intro _) | refine wN ?_ | ((with_reducible show evIs _ (_ :: _) _ _); first | refine wQ ?_ | refine wF ?_ | refine wG ?_ | refine wT ?_ | refine wM ?_ | refine wS ?_ | refine wP ?_ | refine wJ ?_ | refine wX ?_ | refine wY ?_))
  clear hF
  repeat refine evDone ?_
  try (show AW _ _ _ _ _)
  have hF := And.intro (hma) (hme)
  refine wC (hA := h22z) ?_
  clear hF
  have hF := True.intro
  repeat (first | refine wD1 ?_ | refine wD2 ?_ | refine wE1 ?_ | refine wE2 ?_ | (refine wE3 ?_; intro _) | (refine wE4 ?_; intro _) | refine wN ?_ | ((with_reducible show evIs _ (_ :: _) _ _); first | refine wQ ?_ | refine wF ?_ | refine wG ?_ | refine wT ?_ | refine wM ?_ | refine wS ?_ | refine wP ?_ | refine wJ ?_ | refine wX ?_ | refine wY ?_))
  clear hF
  repeat refine evDone ?_
  try (show AW _ _ _ _ _)
  repeat refine AW.seq ?_
  refine AW.reg ?_
  have hF := True.intro
  repeat (first | refine wD1 ?_ | refine wD2 ?_ | refine wE1 ?_ | refine wE2 ?_ | (refine wE3 ?_; intro _) | (refine wE4 ?_; intro _) | refine wN ?_ | ((with_reducible show evIs _ (_ :: _) _ _); first | refine wQ ?_ | refine wF ?_ | refine wG ?_ | refine wT ?_ | refine wM ?_ | refine wS ?_ | refine wP ?_ | refine wJ ?_ | refine wX ?_ | refine wY ?_))
  clear hF
  repeat refine evDone ?_
  try (show AW _ _ _ _ _)
  have hF := True.intro
  refine wC (hA := h17n) ?_
  clear hF
  have hF := True.intro
  repeat (first | refine wD1 ?_ | refine wD2 ?_ | refine wE1 ?_ | refine wE2 ?_ | (refine wE3 ?_; intro _) | (refine wE4 ?_; intro _) | refine wN ?_ | ((with_reducible show evIs _ (_ :: _) _ _); first | refine wQ ?_ | refine wF ?_ | refine wG ?_ | refine wT ?_ | refine wM ?_ | refine wS ?_ | refine wP ?_ | refine wJ ?_ | refine wX ?_ | refine wY ?_))
  clear hF
  repeat refine evDone ?_
  try (show AW _ _ _ _ _)
  have hF := And.intro (hma) (hme)
  refine wC (hA := h17z) ?_
  clear hF
  have hF := True.intro
  repeat (first | refine wD1 ?_ | refine wD2 ?_ | refine wE1 ?_ | refine wE2 ?_ | (refine wE3 ?_; intro _) | (refine wE4 ?_; intro _) | refine wN ?_ | ((with_reducible show evIs _ (_ :: _) _ _); first | refine wQ ?_ | refine wF ?_ | refine wG ?_ | refine wT ?_ | refine wM ?_ | refine wS ?_ | refine wP ?_ | refine wJ ?_ | refine wX ?_ | refine wY ?_))
  clear hF
  repeat refine evDone ?_
  try (show AW _ _ _ _ _)
  have hF := True.intro
  refine wC (hA := h12n) ?_
  clear hF
  have hF := True.intro
  repeat (first | refine wD1 ?_ | refine wD2 ?_ | refine wE1 ?_ | refine wE2 ?_ | (refine wE3 ?_; intro _) | (refine wE4 ?_; intro _) | refine wN ?_ | ((with_reducible show evIs _ (_ :: _) _ _); first | refine wQ ?_ | refine wF ?_ | refine wG ?_ | refine wT ?_ | refine wM ?_ | refine wS ?_ | refine wP ?_ | refine wJ ?_ | refine wX ?_ | refine wY ?_))
  clear hF
  repeat refine evDone ?_
  try (show AW _ _ _ _ _)
  have hF := And.intro (hma) (hme)
  refine wC (hA := h12z) ?_
  clear hF
  have hF := True.intro
  repeat (first | refine wD1 ?_ | refine wD2 ?_ | refine wE1 ?_ | refine wE2 ?_ | (refine wE3 ?_; intro _) | (refine wE4 ?_; intro _) | refine wN ?_ | ((with_reducible show evIs _ (_ :: _) _ _); first | refine wQ ?_ | refine wF ?_ | refine wG ?_ | refine wT ?_ | refine wM ?_ | refine wS ?_ | refine wP ?_ | refine wJ ?_ | refine wX ?_ | refine wY ?_))
  clear hF
  repeat refine evDone ?_
  try (show AW _ _ _ _ _)
  have hF := True.intro
  refine wC (hA := h13n) ?_
  clear hF
  have hF := True.intro
  repeat (first | refine wD1 ?_ | refine wD2 ?_ | refine wE1 ?_ | refine wE2 ?_ | (refine wE3 ?_; intro _) | (refine wE4 ?_; intro _) | refine wN ?_ | ((with_reducible show evIs _ (_ :: _) _ _); first | refine wQ ?_ | refine wF ?_ | refine wG ?_ | refine wT ?_ | refine wM ?_ | refine wS ?_ | refine wP ?_ | refine wJ ?_ | refine wX ?_ | refine wY ?_))
  clear hF
  repeat refine evDone ?_
  try (show AW _ _ _ _ _)
  have hF := And.intro (hma) (hme)
  refine wC (hA := h25z) ?_
  clear hF
  have hF := True.intro
  repeat (first | refine wD1 ?_ | refine wD2 ?_ | refine wE1 ?_ | refine wE2 ?_ | (refine wE3 ?_; intro _) | (refine wE4 ?_; intro _) | refine wN ?_ | ((with_reducible show evIs _ (_ :: _) _ _); first | refine wQ ?_ | refine wF ?_ | refine wG ?_ | refine wT ?_ | refine wM ?_ | refine wS ?_ | refine wP ?_ | refine wJ ?_ | refine wX ?_ | refine wY ?_))
  clear hF
  repeat refine evDone ?_
  try (show AW _ _ _ _ _)
  have hF := True.intro
  refine wC (hA := h15n) ?_
  clear hF
  have hF := True.intro
  repeat (first | refine wD1 ?_ | refine wD2 ?_ | refine wE1 ?_ | refine wE2 ?_ | (refine wE3 ?_; intro _) | (refine wE4 ?_; intro _) | refine wN ?_ | ((with_reducible show evIs _ (_ :: _) _ _); first | refine wQ ?_ | refine wF ?_ | refine wG ?_ | refine wT ?_ | refine wM ?_ | refine wS ?_ | refine wP ?_ | refine wJ ?_ | refine wX ?_ | refine wY ?_))
  clear hF
  repeat refine evDone ?_
  try (show AW _ _ _ _ _)
  have hF := And.intro (hma) (hme)
  refine wC (hA := h15z) ?_
  clear hF
  have hF := hw0
  repeat (first | refine wD1 ?_ | refine wD2 ?_ | refine wE1 ?_ | refine wE2 ?_ | (refine wE3 ?_; intro _) | (refine wE4 ?_; intro _) | refine wN ?_ | ((with_reducible show evIs _ (_ :: _) _ _); first | refine wQ ?_ | refine wF ?_ | refine wG ?_ | refine wT ?_ | refine wM ?_ | refine wS ?_ | refine wP ?_ | refine wJ ?_ | refine wX ?_ | refine wY ?_))
  clear hF
  repeat refine evDone ?_
  try (show AW _ _ _ _ _)
  have hF := True.intro
  refine wC (hA := hw) ?_
  clear hF
  have hF := hw0
  repeat (first | refine wD1 ?_ | refine wD2 ?_ | refine wE1 ?_ | refine wE2 ?_ | (refine wE3 ?_; intro _) | (refine wE4 ?_; intro _) | refine wN ?_ | ((with_reducible show evIs _ (_ :: _) _ _); first | refine wQ ?_ | refine wF ?_ | refine wG ?_ | refine wT ?_ | refine wM ?_ | refine wS ?_ | refine wP ?_ | refine wJ ?_ | refine wX ?_ | refine wY ?_))
  clear hF
  repeat refine evDone ?_
  try (show AW _ _ _ _ _)
  refine AW.ret (retI rfl ?_)
  simp [a7_res, resOk, resP, resV, ARes.op, R2s, R2, R1s, R1, closeOk, closeV]
end Go.Proofs.Ytljahaeachdjmaa
