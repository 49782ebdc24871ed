/- Contracts of chapter 12's functions, twelfth part: comparisons of two integers and of two strings. -/
import Derived.Test.YtcccedmhlennmaaDoorA3
import Derived.Test.YtcccedmhlennmaaDoorS1
import Derived.Test.YtcccedmhlennmaaDoorS4

set_option linter.unusedSimpArgs false
set_option linter.unusedVariables false
set_option maxHeartbeats 4000000
namespace Go.Proofs.YtcccedmhlennmaaDoor
open Go Go.Amb Go.IntWalk Go.Ops

/-- A value without elements and keys. -/
abbrev plV (k n : Int) (t : ByteArray) : AV := .agg [.int .i64 k, .int .i64 n, .str t, .sl .fro [], .sl .fro []]
theorem f66 : ACall Tryd.prog 66 [.sl .fro [], .sl .fro []] (· = .bool true) := by
  refine a66_of (by simp) ?_
  have hF := True.intro
  repeat (first | ((with_reducible show AW _ _ _ _ _); first | refine AW.seq ?_ | refine AW.block ?_ | refine AW.reg ?_ | refine AW.draw ?_ | (refine AW.condT ?_ ?_ ?_; (focus (simp [hF]; done)); (focus (simp [hF]; done))) | (refine AW.condF ?_ ?_ ?_; (focus (simp [hF]; done)); (focus (simp [hF]; done))) | (refine AW.skip ?_; show AW _ _ _ _ _)) | refine wD1 ?_ | refine wD2 ?_ | refine wE1 ?_ | refine wE2 ?_ | (refine wE3 ?_; intro _) | (refine wE4 ?_; intro _) | refine wN ?_ | ((with_reducible show evIs _ (_ :: _) _ _); first | refine wQ ?_ | refine wF ?_ | refine wG ?_ | refine wT ?_ | refine wM ?_ | refine wS ?_ | refine wP ?_ | refine wJ ?_ | refine wX ?_ | refine wY ?_ | refine wZ ?_ | refine wU ?_) | refine evDone ?_ | ((fail_if_success with_reducible show AW _ _ _ _ _); show AW _ _ _ _ _))
  clear hF
  try (show AW _ _ _ _ _)
  refine AW.loop (fun _ : Unit => True) (fun _ => mkS [(0, .sl .fro []), (1, .sl .fro []), (4, .bool false), (12, .int .i64 0), (13, .int .i64 0)] [] 50) (fun _ => 0) () trivial ?_ ?_
  · refine Fit.mk _ _ _ (by simp [conv2, newEmp, convs_refl, convs, conv]) (by simp [heapFit, newEmp, conv2s, conv2, convs_refl, convs, conv]) (by intro q hq; first | (simp at hq; done) | (simp at hq; omega) | (simp at hq; simp; omega))
  intro _ _
  have hF := True.intro
  repeat (first | ((with_reducible show AW _ _ _ _ _); first | refine AW.seq ?_ | refine AW.block ?_ | refine AW.reg ?_ | refine AW.draw ?_ | (refine AW.condT ?_ ?_ ?_; (focus (simp [hF]; done)); (focus (simp [hF]; done))) | (refine AW.condF ?_ ?_ ?_; (focus (simp [hF]; done)); (focus (simp [hF]; done))) | (refine AW.skip ?_; show AW _ _ _ _ _)) | refine wD1 ?_ | refine wD2 ?_ | refine wE1 ?_ | refine wE2 ?_ | (refine wE3 ?_; intro _) | (refine wE4 ?_; intro _) | refine wN ?_ | ((with_reducible show evIs _ (_ :: _) _ _); first | refine wQ ?_ | refine wF ?_ | refine wG ?_ | refine wT ?_ | refine wM ?_ | refine wS ?_ | refine wP ?_ | refine wJ ?_ | refine wX ?_ | refine wY ?_ | refine wZ ?_ | refine wU ?_) | refine evDone ?_ | ((fail_if_success with_reducible show AW _ _ _ _ _); show AW _ _ _ _ _))
  clear hF
  try (show AW _ _ _ _ _)
  refine AW.exit ?_
  show AW _ _ _ _ _
  have hF := True.intro
  repeat (first | ((with_reducible show AW _ _ _ _ _); first | refine AW.seq ?_ | refine AW.block ?_ | refine AW.reg ?_ | refine AW.draw ?_ | (refine AW.condT ?_ ?_ ?_; (focus (simp [hF]; done)); (focus (simp [hF]; done))) | (refine AW.condF ?_ ?_ ?_; (focus (simp [hF]; done)); (focus (simp [hF]; done))) | (refine AW.skip ?_; show AW _ _ _ _ _)) | refine wD1 ?_ | refine wD2 ?_ | refine wE1 ?_ | refine wE2 ?_ | (refine wE3 ?_; intro _) | (refine wE4 ?_; intro _) | refine wN ?_ | ((with_reducible show evIs _ (_ :: _) _ _); first | refine wQ ?_ | refine wF ?_ | refine wG ?_ | refine wT ?_ | refine wM ?_ | refine wS ?_ | refine wP ?_ | refine wJ ?_ | refine wX ?_ | refine wY ?_ | refine wZ ?_ | refine wU ?_) | refine evDone ?_ | ((fail_if_success with_reducible show AW _ _ _ _ _); show AW _ _ _ _ _))
  clear hF
  try (show AW _ _ _ _ _)
  refine AW.ret (retI rfl ?_)
  simp [a66_res, resOk, resP, resV, ARes.op, R2s, R2, R1s, R1, closeOk, closeV]
theorem f67 : ACall Tryd.prog 67 [.sl .fro [], .sl .fro [], .fn 41 []] (· = .bool true) := by
  refine a67_of (by simp) ?_
  have hF := True.intro
  repeat (first | ((with_reducible show AW _ _ _ _ _); first | refine AW.seq ?_ | refine AW.block ?_ | refine AW.reg ?_ | refine AW.draw ?_ | (refine AW.condT ?_ ?_ ?_; (focus (simp [hF]; done)); (focus (simp [hF]; done))) | (refine AW.condF ?_ ?_ ?_; (focus (simp [hF]; done)); (focus (simp [hF]; done))) | (refine AW.skip ?_; show AW _ _ _ _ _)) | refine wD1 ?_ | refine wD2 ?_ | refine wE1 ?_ | refine wE2 ?_ | (refine wE3 ?_; intro _) | (refine wE4 ?_; intro _) | refine wN ?_ | ((with_reducible show evIs _ (_ :: _) _ _); first | refine wQ ?_ | refine wF ?_ | refine wG ?_ | refine wT ?_ | refine wM ?_ | refine wS ?_ | refine wP ?_ | refine wJ ?_ | refine wX ?_ | refine wY ?_ | refine wZ ?_ | refine wU ?_) | refine evDone ?_ | ((fail_if_success with_reducible show AW _ _ _ _ _); show AW _ _ _ _ _))
  clear hF
  try (show AW _ _ _ _ _)
  refine AW.loop (fun _ : Unit => True) (fun _ => mkS [(0, .sl .fro []), (1, .sl .fro []), (2, .fn 41 []), (6, .bool false), (15, .sl .fro []), (16, .int .i64 0), (17, .int .i64 0)] [] 50) (fun _ => 0) () trivial ?_ ?_
  · refine Fit.mk _ _ _ (by simp [conv2, newEmp, convs_refl, convs, conv]) (by simp [heapFit, newEmp, conv2s, conv2, convs_refl, convs, conv]) (by intro q hq; first | (simp at hq; done) | (simp at hq; omega) | (simp at hq; simp; omega))
  intro _ _
  have hF := True.intro
  repeat (first | ((with_reducible show AW _ _ _ _ _); first | refine AW.seq ?_ | refine AW.block ?_ | refine AW.reg ?_ | refine AW.draw ?_ | (refine AW.condT ?_ ?_ ?_; (focus (simp [hF]; done)); (focus (simp [hF]; done))) | (refine AW.condF ?_ ?_ ?_; (focus (simp [hF]; done)); (focus (simp [hF]; done))) | (refine AW.skip ?_; show AW _ _ _ _ _)) | refine wD1 ?_ | refine wD2 ?_ | refine wE1 ?_ | refine wE2 ?_ | (refine wE3 ?_; intro _) | (refine wE4 ?_; intro _) | refine wN ?_ | ((with_reducible show evIs _ (_ :: _) _ _); first | refine wQ ?_ | refine wF ?_ | refine wG ?_ | refine wT ?_ | refine wM ?_ | refine wS ?_ | refine wP ?_ | refine wJ ?_ | refine wX ?_ | refine wY ?_ | refine wZ ?_ | refine wU ?_) | refine evDone ?_ | ((fail_if_success with_reducible show AW _ _ _ _ _); show AW _ _ _ _ _))
  clear hF
  try (show AW _ _ _ _ _)
  refine AW.exit ?_
  show AW _ _ _ _ _
  have hF := True.intro
  repeat (first | ((with_reducible show AW _ _ _ _ _); first | refine AW.seq ?_ | refine AW.block ?_ | refine AW.reg ?_ | refine AW.draw ?_ | (refine AW.condT ?_ ?_ ?_; (focus (simp [hF]; done)); (focus (simp [hF]; done))) | (refine AW.condF ?_ ?_ ?_; (focus (simp [hF]; done)); (focus (simp [hF]; done))) | (refine AW.skip ?_; show AW _ _ _ _ _)) | refine wD1 ?_ | refine wD2 ?_ | refine wE1 ?_ | refine wE2 ?_ | (refine wE3 ?_; intro _) | (refine wE4 ?_; intro _) | refine wN ?_ | ((with_reducible show evIs _ (_ :: _) _ _); first | refine wQ ?_ | refine wF ?_ | refine wG ?_ | refine wT ?_ | refine wM ?_ | refine wS ?_ | refine wP ?_ | refine wJ ?_ | refine wX ?_ | refine wY ?_ | refine wZ ?_ | refine wU ?_) | refine evDone ?_ | ((fail_if_success with_reducible show AW _ _ _ _ _); show AW _ _ _ _ _))
  clear hF
  try (show AW _ _ _ _ _)
  refine AW.ret (retI rfl ?_)
  simp [a67_res, resOk, resP, resV, ARes.op, R2s, R2, R1s, R1, closeOk, closeV]
theorem f41 (k n m : Int) (s t : ByteArray) : ACall Tryd.prog 41 [plV k n s, plV k m t] (· = .bool (decide (n = m ∧ s = t))) := by
  have h66 := f66
  have h67 := f67
  by_cases hn : n = m
  · subst hn
    by_cases hs : s = t
    · subst hs
      refine a41_of (by simp) ?_
      have hF := True.intro
      repeat (first | ((with_reducible show AW _ _ _ _ _); first | refine AW.seq ?_ | refine AW.block ?_ | refine AW.reg ?_ | refine AW.draw ?_ | (refine AW.condT ?_ ?_ ?_; (focus (simp [hF]; done)); (focus (simp [hF]; done))) | (refine AW.condF ?_ ?_ ?_; (focus (simp [hF]; done)); (focus (simp [hF]; done))) | (refine AW.skip ?_; show AW _ _ _ _ _)) | refine wD1 ?_ | refine wD2 ?_ | refine wE1 ?_ | refine wE2 ?_ | (refine wE3 ?_; intro _) | (refine wE4 ?_; intro _) | refine wN ?_ | ((with_reducible show evIs _ (_ :: _) _ _); first | refine wQ ?_ | refine wF ?_ | refine wG ?_ | refine wT ?_ | refine wM ?_ | refine wS ?_ | refine wP ?_ | refine wJ ?_ | refine wX ?_ | refine wY ?_ | refine wZ ?_ | refine wU ?_) | refine evDone ?_ | ((fail_if_success with_reducible show AW _ _ _ _ _); show AW _ _ _ _ _))
      clear hF
      try (show AW _ _ _ _ _)
      have hF := True.intro
      refine wC (hA := h66) ?_
      clear hF
      have hF := True.intro
      repeat (first | ((with_reducible show AW _ _ _ _ _); first | refine AW.seq ?_ | refine AW.block ?_ | refine AW.reg ?_ | refine AW.draw ?_ | (refine AW.condT ?_ ?_ ?_; (focus (simp [hF]; done)); (focus (simp [hF]; done))) | (refine AW.condF ?_ ?_ ?_; (focus (simp [hF]; done)); (focus (simp [hF]; done))) | (refine AW.skip ?_; show AW _ _ _ _ _)) | refine wD1 ?_ | refine wD2 ?_ | refine wE1 ?_ | refine wE2 ?_ | (refine wE3 ?_; intro _) | (refine wE4 ?_; intro _) | refine wN ?_ | ((with_reducible show evIs _ (_ :: _) _ _); first | refine wQ ?_ | refine wF ?_ | refine wG ?_ | refine wT ?_ | refine wM ?_ | refine wS ?_ | refine wP ?_ | refine wJ ?_ | refine wX ?_ | refine wY ?_ | refine wZ ?_ | refine wU ?_) | refine evDone ?_ | ((fail_if_success with_reducible show AW _ _ _ _ _); show AW _ _ _ _ _))
      clear hF
      try (show AW _ _ _ _ _)
      have hF := True.intro
      refine wC (hA := h67) ?_
      clear hF
      have hF := True.intro
      repeat (first | ((with_reducible show AW _ _ _ _ _); first | refine AW.seq ?_ | refine AW.block ?_ | refine AW.reg ?_ | refine AW.draw ?_ | (refine AW.condT ?_ ?_ ?_; (focus (simp [hF]; done)); (focus (simp [hF]; done))) | (refine AW.condF ?_ ?_ ?_; (focus (simp [hF]; done)); (focus (simp [hF]; done))) | (refine AW.skip ?_; show AW _ _ _ _ _)) | refine wD1 ?_ | refine wD2 ?_ | refine wE1 ?_ | refine wE2 ?_ | (refine wE3 ?_; intro _) | (refine wE4 ?_; intro _) | refine wN ?_ | ((with_reducible show evIs _ (_ :: _) _ _); first | refine wQ ?_ | refine wF ?_ | refine wG ?_ | refine wT ?_ | refine wM ?_ | refine wS ?_ | refine wP ?_ | refine wJ ?_ | refine wX ?_ | refine wY ?_ | refine wZ ?_ | refine wU ?_) | refine evDone ?_ | ((fail_if_success with_reducible show AW _ _ _ _ _); show AW _ _ _ _ _))
      clear hF
      try (show AW _ _ _ _ _)
      refine AW.ret (retI rfl ?_)
      simp [a41_res, resOk, resP, resV, ARes.op, R2s, R2, R1s, R1, closeOk, closeV]
    · refine a41_of (by simp) ?_
      have hF := hs
      repeat (first | ((with_reducible show AW _ _ _ _ _); first | refine AW.seq ?_ | refine AW.block ?_ | refine AW.reg ?_ | refine AW.draw ?_ | (refine AW.condT ?_ ?_ ?_; (focus (simp [hF]; done)); (focus (simp [hF]; done))) | (refine AW.condF ?_ ?_ ?_; (focus (simp [hF]; done)); (focus (simp [hF]; done))) | (refine AW.skip ?_; show AW _ _ _ _ _)) | refine wD1 ?_ | refine wD2 ?_ | refine wE1 ?_ | refine wE2 ?_ | (refine wE3 ?_; intro _) | (refine wE4 ?_; intro _) | refine wN ?_ | ((with_reducible show evIs _ (_ :: _) _ _); first | refine wQ ?_ | refine wF ?_ | refine wG ?_ | refine wT ?_ | refine wM ?_ | refine wS ?_ | refine wP ?_ | refine wJ ?_ | refine wX ?_ | refine wY ?_ | refine wZ ?_ | refine wU ?_) | refine evDone ?_ | ((fail_if_success with_reducible show AW _ _ _ _ _); show AW _ _ _ _ _))
      clear hF
      try (show AW _ _ _ _ _)
      refine AW.ret (retI rfl ?_)
      simp [hs, a41_res, resOk, resP, resV, ARes.op, R2s, R2, R1s, R1, closeOk, closeV]
  · refine a41_of (by simp) ?_
    have hF := hn
    repeat (first | ((with_reducible show AW _ _ _ _ _); first | refine AW.seq ?_ | refine AW.block ?_ | refine AW.reg ?_ | refine AW.draw ?_ | (refine AW.condT ?_ ?_ ?_; (focus (simp [hF]; done)); (focus (simp [hF]; done))) | (refine AW.condF ?_ ?_ ?_; (focus (simp [hF]; done)); (focus (simp [hF]; done))) | (refine AW.skip ?_; show AW _ _ _ _ _)) | refine wD1 ?_ | refine wD2 ?_ | refine wE1 ?_ | refine wE2 ?_ | (refine wE3 ?_; intro _) | (refine wE4 ?_; intro _) | refine wN ?_ | ((with_reducible show evIs _ (_ :: _) _ _); first | refine wQ ?_ | refine wF ?_ | refine wG ?_ | refine wT ?_ | refine wM ?_ | refine wS ?_ | refine wP ?_ | refine wJ ?_ | refine wX ?_ | refine wY ?_ | refine wZ ?_ | refine wU ?_) | refine evDone ?_ | ((fail_if_success with_reducible show AW _ _ _ _ _); show AW _ _ _ _ _))
    clear hF
    try (show AW _ _ _ _ _)
    refine AW.ret (retI rfl ?_)
    simp [hn, a41_res, resOk, resP, resV, ARes.op, R2s, R2, R1s, R1, closeOk, closeV]
end Go.Proofs.YtcccedmhlennmaaDoor

set_option linter.unusedSimpArgs false
set_option linter.unusedVariables false
set_option maxHeartbeats 4000000
namespace Go.Proofs.YtcccedmhlennmaaDoor
open Go Go.Amb Go.IntWalk Go.Ops

/-- The relation of two operands as a number: 0 is less, 1 is equal, 2 is more. -/
def rel3 (l g : Bool) : Int := if l then 0 else if g then 2 else 1
theorem f68n (m n : Int) : ACall Tryd.prog 68 [plV 2 m ⟨#[]⟩, plV 2 n ⟨#[]⟩] (· = .tup [.int .i64 (rel3 (decide (m < n)) (decide (n < m))), .bool true]) := by
  by_cases h1 : m < n
  · have h2 : ¬ n < m := by omega
    refine a68_of (by simp) ?_
    have hF := h1
    repeat (first | ((with_reducible show AW _ _ _ _ _); first | refine AW.seq ?_ | refine AW.block ?_ | refine AW.reg ?_ | refine AW.draw ?_ | (refine AW.condT ?_ ?_ ?_; (focus (simp [hF]; done)); (focus (simp [hF]; done))) | (refine AW.condF ?_ ?_ ?_; (focus (simp [hF]; done)); (focus (simp [hF]; done))) | (refine AW.skip ?_; show AW _ _ _ _ _)) | refine wD1 ?_ | refine wD2 ?_ | refine wE1 ?_ | refine wE2 ?_ | (refine wE3 ?_; intro _) | (refine wE4 ?_; intro _) | refine wN ?_ | ((with_reducible show evIs _ (_ :: _) _ _); first | refine wQ ?_ | refine wF ?_ | refine wG ?_ | refine wT ?_ | refine wM ?_ | refine wS ?_ | refine wP ?_ | refine wJ ?_ | refine wX ?_ | refine wY ?_ | refine wZ ?_ | refine wU ?_) | refine evDone ?_ | ((fail_if_success with_reducible show AW _ _ _ _ _); show AW _ _ _ _ _))
    clear hF
    try (show AW _ _ _ _ _)
    refine AW.ret (retI rfl ?_)
    simp [rel3, h1, a68_res, resOk, resP, resV, ARes.op, R2s, R2, R1s, R1, closeOk, closeV]
  · by_cases h2 : n < m
    · refine a68_of (by simp) ?_
      have hF := And.intro (h1) (h2)
      repeat (first | ((with_reducible show AW _ _ _ _ _); first | refine AW.seq ?_ | refine AW.block ?_ | refine AW.reg ?_ | refine AW.draw ?_ | (refine AW.condT ?_ ?_ ?_; (focus (simp [hF]; done)); (focus (simp [hF]; done))) | (refine AW.condF ?_ ?_ ?_; (focus (simp [hF]; done)); (focus (simp [hF]; done))) | (refine AW.skip ?_; show AW _ _ _ _ _)) | refine wD1 ?_ | refine wD2 ?_ | refine wE1 ?_ | refine wE2 ?_ | (refine wE3 ?_; intro _) | (refine wE4 ?_; intro _) | refine wN ?_ | ((with_reducible show evIs _ (_ :: _) _ _); first | refine wQ ?_ | refine wF ?_ | refine wG ?_ | refine wT ?_ | refine wM ?_ | refine wS ?_ | refine wP ?_ | refine wJ ?_ | refine wX ?_ | refine wY ?_ | refine wZ ?_ | refine wU ?_) | refine evDone ?_ | ((fail_if_success with_reducible show AW _ _ _ _ _); show AW _ _ _ _ _))
      clear hF
      try (show AW _ _ _ _ _)
      refine AW.ret (retI rfl ?_)
      simp [rel3, h1, h2, a68_res, resOk, resP, resV, ARes.op, R2s, R2, R1s, R1, closeOk, closeV]
    · refine a68_of (by simp) ?_
      have hF := And.intro (h1) (h2)
      repeat (first | ((with_reducible show AW _ _ _ _ _); first | refine AW.seq ?_ | refine AW.block ?_ | refine AW.reg ?_ | refine AW.draw ?_ | (refine AW.condT ?_ ?_ ?_; (focus (simp [hF]; done)); (focus (simp [hF]; done))) | (refine AW.condF ?_ ?_ ?_; (focus (simp [hF]; done)); (focus (simp [hF]; done))) | (refine AW.skip ?_; show AW _ _ _ _ _)) | refine wD1 ?_ | refine wD2 ?_ | refine wE1 ?_ | refine wE2 ?_ | (refine wE3 ?_; intro _) | (refine wE4 ?_; intro _) | refine wN ?_ | ((with_reducible show evIs _ (_ :: _) _ _); first | refine wQ ?_ | refine wF ?_ | refine wG ?_ | refine wT ?_ | refine wM ?_ | refine wS ?_ | refine wP ?_ | refine wJ ?_ | refine wX ?_ | refine wY ?_ | refine wZ ?_ | refine wU ?_) | refine evDone ?_ | ((fail_if_success with_reducible show AW _ _ _ _ _); show AW _ _ _ _ _))
      clear hF
      try (show AW _ _ _ _ _)
      refine AW.ret (retI rfl ?_)
      simp [rel3, h1, h2, a68_res, resOk, resP, resV, ARes.op, R2s, R2, R1s, R1, closeOk, closeV]
theorem f68t (s t : ByteArray) : ACall Tryd.prog 68 [plV 3 0 s, plV 3 0 t] (· = .tup [.int .i64 (rel3 (Op.bytesLess s.toList t.toList) (Op.bytesLess t.toList s.toList)), .bool true]) := by
  rcases text_cases s t with ⟨h0, h1, h2⟩ | ⟨h0, h1, h2⟩ | ⟨h0, h1, h2⟩
  · subst h0
    refine a68_of (by simp) ?_
    have hF := h1
    repeat (first | ((with_reducible show AW _ _ _ _ _); first | refine AW.seq ?_ | refine AW.block ?_ | refine AW.reg ?_ | refine AW.draw ?_ | (refine AW.condT ?_ ?_ ?_; (focus (simp [hF]; done)); (focus (simp [hF]; done))) | (refine AW.condF ?_ ?_ ?_; (focus (simp [hF]; done)); (focus (simp [hF]; done))) | (refine AW.skip ?_; show AW _ _ _ _ _)) | refine wD1 ?_ | refine wD2 ?_ | refine wE1 ?_ | refine wE2 ?_ | (refine wE3 ?_; intro _) | (refine wE4 ?_; intro _) | refine wN ?_ | ((with_reducible show evIs _ (_ :: _) _ _); first | refine wQ ?_ | refine wF ?_ | refine wG ?_ | refine wT ?_ | refine wM ?_ | refine wS ?_ | refine wP ?_ | refine wJ ?_ | refine wX ?_ | refine wY ?_ | refine wZ ?_ | refine wU ?_) | refine evDone ?_ | ((fail_if_success with_reducible show AW _ _ _ _ _); show AW _ _ _ _ _))
    clear hF
    try (show AW _ _ _ _ _)
    refine AW.ret (retI rfl ?_)
    simp [rel3, h1, a68_res, resOk, resP, resV, ARes.op, R2s, R2, R1s, R1, closeOk, closeV]
  · refine a68_of (by simp) ?_
    have hF := And.intro (h0) (And.intro (h1) (h2))
    repeat (first | ((with_reducible show AW _ _ _ _ _); first | refine AW.seq ?_ | refine AW.block ?_ | refine AW.reg ?_ | refine AW.draw ?_ | (refine AW.condT ?_ ?_ ?_; (focus (simp [hF]; done)); (focus (simp [hF]; done))) | (refine AW.condF ?_ ?_ ?_; (focus (simp [hF]; done)); (focus (simp [hF]; done))) | (refine AW.skip ?_; show AW _ _ _ _ _)) | refine wD1 ?_ | refine wD2 ?_ | refine wE1 ?_ | refine wE2 ?_ | (refine wE3 ?_; intro _) | (refine wE4 ?_; intro _) | refine wN ?_ | ((with_reducible show evIs _ (_ :: _) _ _); first | refine wQ ?_ | refine wF ?_ | refine wG ?_ | refine wT ?_ | refine wM ?_ | refine wS ?_ | refine wP ?_ | refine wJ ?_ | refine wX ?_ | refine wY ?_ | refine wZ ?_ | refine wU ?_) | refine evDone ?_ | ((fail_if_success with_reducible show AW _ _ _ _ _); show AW _ _ _ _ _))
    clear hF
    try (show AW _ _ _ _ _)
    refine AW.ret (retI rfl ?_)
    simp [rel3, h1, h2, a68_res, resOk, resP, resV, ARes.op, R2s, R2, R1s, R1, closeOk, closeV]
  · refine a68_of (by simp) ?_
    have hF := And.intro (h0) (And.intro (h1) (h2))
    repeat (first | ((with_reducible show AW _ _ _ _ _); first | refine AW.seq ?_ | refine AW.block ?_ | refine AW.reg ?_ | refine AW.draw ?_ | (refine AW.condT ?_ ?_ ?_; (focus (simp [hF]; done)); (focus (simp [hF]; done))) | (refine AW.condF ?_ ?_ ?_; (focus (simp [hF]; done)); (focus (simp [hF]; done))) | (refine AW.skip ?_; show AW _ _ _ _ _)) | refine wD1 ?_ | refine wD2 ?_ | refine wE1 ?_ | refine wE2 ?_ | (refine wE3 ?_; intro _) | (refine wE4 ?_; intro _) | refine wN ?_ | ((with_reducible show evIs _ (_ :: _) _ _); first | refine wQ ?_ | refine wF ?_ | refine wG ?_ | refine wT ?_ | refine wM ?_ | refine wS ?_ | refine wP ?_ | refine wJ ?_ | refine wX ?_ | refine wY ?_ | refine wZ ?_ | refine wU ?_) | refine evDone ?_ | ((fail_if_success with_reducible show AW _ _ _ _ _); show AW _ _ _ _ _))
    clear hF
    try (show AW _ _ _ _ _)
    refine AW.ret (retI rfl ?_)
    simp [rel3, h1, h2, a68_res, resOk, resP, resV, ARes.op, R2s, R2, R1s, R1, closeOk, closeV]
/-- What an operator of order says of the relation. -/
def cmp3 (op r : Int) : Bool := if op = 20 then r == 0 else if op = 21 then r != 2 else if op = 22 then r == 2 else r != 0
theorem f42 (op r k m n : Int) (s t : ByteArray) (hop : op = 20 ∨ op = 21 ∨ op = 22 ∨ op = 23) (hr : r = 0 ∨ r = 1 ∨ r = 2)
    (h68 : ACall Tryd.prog 68 [plV k m s, plV k n t] (· = .tup [.int .i64 r, .bool true])) : ACall Tryd.prog 42 [.int .i64 op, plV k m s, plV k n t] (· = .tup [boolV (cmp3 op r), .int .i64 0]) := by
  have h31 := f31 (cmp3 op r)
  refine a42_of (by simp) ?_
  rcases hop with rfl | rfl | rfl | rfl <;> rcases hr with rfl | rfl | rfl
  all_goals
    simp [cmp3] at h31
    have hF := True.intro
    repeat (first | ((with_reducible show AW _ _ _ _ _); first | refine AW.seq ?_ | refine AW.block ?_ | refine AW.reg ?_ | refine AW.draw ?_ | (refine AW.condT ?_ ?_ ?_; (focus (simp [hF]; done)); (focus (simp [hF]; done))) | (refine AW.condF ?_ ?_ ?_; (focus (simp [hF]; done)); (focus (simp [hF]; done))) | (refine AW.skip ?_; show AW _ _ _ _ _)) | refine wD1 ?_ | refine wD2 ?_ | refine wE1 ?_ | refine wE2 ?_ | (refine wE3 ?_; intro _) | (refine wE4 ?_; intro _) | refine wN ?_ | ((with_reducible show evIs _ (_ :: _) _ _); first | refine wQ ?_ | refine wF ?_ | refine wG ?_ | refine wT ?_ | refine wM ?_ | refine wS ?_ | refine wP ?_ | refine wJ ?_ | refine wX ?_ | refine wY ?_ | refine wZ ?_ | refine wU ?_) | refine evDone ?_ | ((fail_if_success with_reducible show AW _ _ _ _ _); show AW _ _ _ _ _))
    clear hF
    try (show AW _ _ _ _ _)
    have hF := True.intro
    refine wC (hA := h68) ?_
    clear hF
    have hF := True.intro
    repeat (first | ((with_reducible show AW _ _ _ _ _); first | refine AW.seq ?_ | refine AW.block ?_ | refine AW.reg ?_ | refine AW.draw ?_ | (refine AW.condT ?_ ?_ ?_; (focus (simp [hF]; done)); (focus (simp [hF]; done))) | (refine AW.condF ?_ ?_ ?_; (focus (simp [hF]; done)); (focus (simp [hF]; done))) | (refine AW.skip ?_; show AW _ _ _ _ _)) | refine wD1 ?_ | refine wD2 ?_ | refine wE1 ?_ | refine wE2 ?_ | (refine wE3 ?_; intro _) | (refine wE4 ?_; intro _) | refine wN ?_ | ((with_reducible show evIs _ (_ :: _) _ _); first | refine wQ ?_ | refine wF ?_ | refine wG ?_ | refine wT ?_ | refine wM ?_ | refine wS ?_ | refine wP ?_ | refine wJ ?_ | refine wX ?_ | refine wY ?_ | refine wZ ?_ | refine wU ?_) | refine evDone ?_ | ((fail_if_success with_reducible show AW _ _ _ _ _); show AW _ _ _ _ _))
    clear hF
    try (show AW _ _ _ _ _)
    have hF := True.intro
    refine wC (hA := h31) ?_
    clear hF
    have hF := True.intro
    repeat (first | ((with_reducible show AW _ _ _ _ _); first | refine AW.seq ?_ | refine AW.block ?_ | refine AW.reg ?_ | refine AW.draw ?_ | (refine AW.condT ?_ ?_ ?_; (focus (simp [hF]; done)); (focus (simp [hF]; done))) | (refine AW.condF ?_ ?_ ?_; (focus (simp [hF]; done)); (focus (simp [hF]; done))) | (refine AW.skip ?_; show AW _ _ _ _ _)) | refine wD1 ?_ | refine wD2 ?_ | refine wE1 ?_ | refine wE2 ?_ | (refine wE3 ?_; intro _) | (refine wE4 ?_; intro _) | refine wN ?_ | ((with_reducible show evIs _ (_ :: _) _ _); first | refine wQ ?_ | refine wF ?_ | refine wG ?_ | refine wT ?_ | refine wM ?_ | refine wS ?_ | refine wP ?_ | refine wJ ?_ | refine wX ?_ | refine wY ?_ | refine wZ ?_ | refine wU ?_) | refine evDone ?_ | ((fail_if_success with_reducible show AW _ _ _ _ _); show AW _ _ _ _ _))
    clear hF
    try (show AW _ _ _ _ _)
    refine AW.ret (retI rfl ?_)
    simp [cmp3, a42_res, resOk, resP, resV, ARes.op, R2s, R2, R1s, R1, closeOk, closeV]
theorem f13c (op r k m n : Int) (s t : ByteArray) (hop : op = 20 ∨ op = 21 ∨ op = 22 ∨ op = 23) (hr : r = 0 ∨ r = 1 ∨ r = 2)
    (h68 : ACall Tryd.prog 68 [plV k m s, plV k n t] (· = .tup [.int .i64 r, .bool true])) : ACall Tryd.prog 13 [.int .i64 op, plV k m s, plV k n t] (· = .tup [boolV (cmp3 op r), .int .i64 0]) := by
  have h42 := f42 op r k m n s t hop hr h68
  refine a13_of (by simp) ?_
  rcases hop with rfl | rfl | rfl | rfl
  all_goals
    have hF := True.intro
    repeat (first | ((with_reducible show AW _ _ _ _ _); first | refine AW.seq ?_ | refine AW.block ?_ | refine AW.reg ?_ | refine AW.draw ?_ | (refine AW.condT ?_ ?_ ?_; (focus (simp [hF]; done)); (focus (simp [hF]; done))) | (refine AW.condF ?_ ?_ ?_; (focus (simp [hF]; done)); (focus (simp [hF]; done))) | (refine AW.skip ?_; show AW _ _ _ _ _)) | refine wD1 ?_ | refine wD2 ?_ | refine wE1 ?_ | refine wE2 ?_ | (refine wE3 ?_; intro _) | (refine wE4 ?_; intro _) | refine wN ?_ | ((with_reducible show evIs _ (_ :: _) _ _); first | refine wQ ?_ | refine wF ?_ | refine wG ?_ | refine wT ?_ | refine wM ?_ | refine wS ?_ | refine wP ?_ | refine wJ ?_ | refine wX ?_ | refine wY ?_ | refine wZ ?_ | refine wU ?_) | refine evDone ?_ | ((fail_if_success with_reducible show AW _ _ _ _ _); show AW _ _ _ _ _))
    clear hF
    try (show AW _ _ _ _ _)
    have hF := True.intro
    refine wC (hA := h42) ?_
    clear hF
    have hF := True.intro
    repeat (first | ((with_reducible show AW _ _ _ _ _); first | refine AW.seq ?_ | refine AW.block ?_ | refine AW.reg ?_ | refine AW.draw ?_ | (refine AW.condT ?_ ?_ ?_; (focus (simp [hF]; done)); (focus (simp [hF]; done))) | (refine AW.condF ?_ ?_ ?_; (focus (simp [hF]; done)); (focus (simp [hF]; done))) | (refine AW.skip ?_; show AW _ _ _ _ _)) | refine wD1 ?_ | refine wD2 ?_ | refine wE1 ?_ | refine wE2 ?_ | (refine wE3 ?_; intro _) | (refine wE4 ?_; intro _) | refine wN ?_ | ((with_reducible show evIs _ (_ :: _) _ _); first | refine wQ ?_ | refine wF ?_ | refine wG ?_ | refine wT ?_ | refine wM ?_ | refine wS ?_ | refine wP ?_ | refine wJ ?_ | refine wX ?_ | refine wY ?_ | refine wZ ?_ | refine wU ?_) | refine evDone ?_ | ((fail_if_success with_reducible show AW _ _ _ _ _); show AW _ _ _ _ _))
    clear hF
    try (show AW _ _ _ _ _)
    refine AW.ret (retI rfl ?_)
    simp [a13_res, resOk, resP, resV, ARes.op, R2s, R2, R1s, R1, closeOk, closeV]
theorem f13s (k m n : Int) (s t : ByteArray) : ACall Tryd.prog 13 [.int .i64 24, plV k m s, plV k n t] (· = .tup [boolV (decide (m = n ∧ s = t)), .int .i64 0]) := by
  have h41 := f41 k m n s t
  generalize decide (m = n ∧ s = t) = q at h41 ⊢
  have h31 := f31 q
  refine a13_of (by simp) ?_
  have hF := True.intro
  repeat (first | ((with_reducible show AW _ _ _ _ _); first | refine AW.seq ?_ | refine AW.block ?_ | refine AW.reg ?_ | refine AW.draw ?_ | (refine AW.condT ?_ ?_ ?_; (focus (simp [hF]; done)); (focus (simp [hF]; done))) | (refine AW.condF ?_ ?_ ?_; (focus (simp [hF]; done)); (focus (simp [hF]; done))) | (refine AW.skip ?_; show AW _ _ _ _ _)) | refine wD1 ?_ | refine wD2 ?_ | refine wE1 ?_ | refine wE2 ?_ | (refine wE3 ?_; intro _) | (refine wE4 ?_; intro _) | refine wN ?_ | ((with_reducible show evIs _ (_ :: _) _ _); first | refine wQ ?_ | refine wF ?_ | refine wG ?_ | refine wT ?_ | refine wM ?_ | refine wS ?_ | refine wP ?_ | refine wJ ?_ | refine wX ?_ | refine wY ?_ | refine wZ ?_ | refine wU ?_) | refine evDone ?_ | ((fail_if_success with_reducible show AW _ _ _ _ _); show AW _ _ _ _ _))
  clear hF
  try (show AW _ _ _ _ _)
  have hF := True.intro
  refine wC (hA := h41) ?_
  clear hF
  have hF := True.intro
  repeat (first | ((with_reducible show AW _ _ _ _ _); first | refine AW.seq ?_ | refine AW.block ?_ | refine AW.reg ?_ | refine AW.draw ?_ | (refine AW.condT ?_ ?_ ?_; (focus (simp [hF]; done)); (focus (simp [hF]; done))) | (refine AW.condF ?_ ?_ ?_; (focus (simp [hF]; done)); (focus (simp [hF]; done))) | (refine AW.skip ?_; show AW _ _ _ _ _)) | refine wD1 ?_ | refine wD2 ?_ | refine wE1 ?_ | refine wE2 ?_ | (refine wE3 ?_; intro _) | (refine wE4 ?_; intro _) | refine wN ?_ | ((with_reducible show evIs _ (_ :: _) _ _); first | refine wQ ?_ | refine wF ?_ | refine wG ?_ | refine wT ?_ | refine wM ?_ | refine wS ?_ | refine wP ?_ | refine wJ ?_ | refine wX ?_ | refine wY ?_ | refine wZ ?_ | refine wU ?_) | refine evDone ?_ | ((fail_if_success with_reducible show AW _ _ _ _ _); show AW _ _ _ _ _))
  clear hF
  try (show AW _ _ _ _ _)
  have hF := True.intro
  refine wC (hA := h31) ?_
  clear hF
  have hF := True.intro
  repeat (first | ((with_reducible show AW _ _ _ _ _); first | refine AW.seq ?_ | refine AW.block ?_ | refine AW.reg ?_ | refine AW.draw ?_ | (refine AW.condT ?_ ?_ ?_; (focus (simp [hF]; done)); (focus (simp [hF]; done))) | (refine AW.condF ?_ ?_ ?_; (focus (simp [hF]; done)); (focus (simp [hF]; done))) | (refine AW.skip ?_; show AW _ _ _ _ _)) | refine wD1 ?_ | refine wD2 ?_ | refine wE1 ?_ | refine wE2 ?_ | (refine wE3 ?_; intro _) | (refine wE4 ?_; intro _) | refine wN ?_ | ((with_reducible show evIs _ (_ :: _) _ _); first | refine wQ ?_ | refine wF ?_ | refine wG ?_ | refine wT ?_ | refine wM ?_ | refine wS ?_ | refine wP ?_ | refine wJ ?_ | refine wX ?_ | refine wY ?_ | refine wZ ?_ | refine wU ?_) | refine evDone ?_ | ((fail_if_success with_reducible show AW _ _ _ _ _); show AW _ _ _ _ _))
  clear hF
  try (show AW _ _ _ _ _)
  refine AW.ret (retI rfl ?_)
  simp [a13_res, resOk, resP, resV, ARes.op, R2s, R2, R1s, R1, closeOk, closeV]
theorem f13d (k m n : Int) (s t : ByteArray) : ACall Tryd.prog 13 [.int .i64 25, plV k m s, plV k n t] (· = .tup [boolV (!decide (m = n ∧ s = t)), .int .i64 0]) := by
  have h41 := f41 k m n s t
  generalize decide (m = n ∧ s = t) = q at h41 ⊢
  have h31 := f31 (!q)
  refine a13_of (by simp) ?_
  have hF := True.intro
  repeat (first | ((with_reducible show AW _ _ _ _ _); first | refine AW.seq ?_ | refine AW.block ?_ | refine AW.reg ?_ | refine AW.draw ?_ | (refine AW.condT ?_ ?_ ?_; (focus (simp [hF]; done)); (focus (simp [hF]; done))) | (refine AW.condF ?_ ?_ ?_; (focus (simp [hF]; done)); (focus (simp [hF]; done))) | (refine AW.skip ?_; show AW _ _ _ _ _)) | refine wD1 ?_ | refine wD2 ?_ | refine wE1 ?_ | refine wE2 ?_ | (refine wE3 ?_; intro _) | (refine wE4 ?_; intro _) | refine wN ?_ | ((with_reducible show evIs _ (_ :: _) _ _); first | refine wQ ?_ | refine wF ?_ | refine wG ?_ | refine wT ?_ | refine wM ?_ | refine wS ?_ | refine wP ?_ | refine wJ ?_ | refine wX ?_ | refine wY ?_ | refine wZ ?_ | refine wU ?_) | refine evDone ?_ | ((fail_if_success with_reducible show AW _ _ _ _ _); show AW _ _ _ _ _))
  clear hF
  try (show AW _ _ _ _ _)
  have hF := True.intro
  refine wC (hA := h41) ?_
  clear hF
  have hF := True.intro
  repeat (first | ((with_reducible show AW _ _ _ _ _); first | refine AW.seq ?_ | refine AW.block ?_ | refine AW.reg ?_ | refine AW.draw ?_ | (refine AW.condT ?_ ?_ ?_; (focus (simp [hF]; done)); (focus (simp [hF]; done))) | (refine AW.condF ?_ ?_ ?_; (focus (simp [hF]; done)); (focus (simp [hF]; done))) | (refine AW.skip ?_; show AW _ _ _ _ _)) | refine wD1 ?_ | refine wD2 ?_ | refine wE1 ?_ | refine wE2 ?_ | (refine wE3 ?_; intro _) | (refine wE4 ?_; intro _) | refine wN ?_ | ((with_reducible show evIs _ (_ :: _) _ _); first | refine wQ ?_ | refine wF ?_ | refine wG ?_ | refine wT ?_ | refine wM ?_ | refine wS ?_ | refine wP ?_ | refine wJ ?_ | refine wX ?_ | refine wY ?_ | refine wZ ?_ | refine wU ?_) | refine evDone ?_ | ((fail_if_success with_reducible show AW _ _ _ _ _); show AW _ _ _ _ _))
  clear hF
  try (show AW _ _ _ _ _)
  have hF := True.intro
  refine wC (hA := h31) ?_
  clear hF
  have hF := True.intro
  repeat (first | ((with_reducible show AW _ _ _ _ _); first | refine AW.seq ?_ | refine AW.block ?_ | refine AW.reg ?_ | refine AW.draw ?_ | (refine AW.condT ?_ ?_ ?_; (focus (simp [hF]; done)); (focus (simp [hF]; done))) | (refine AW.condF ?_ ?_ ?_; (focus (simp [hF]; done)); (focus (simp [hF]; done))) | (refine AW.skip ?_; show AW _ _ _ _ _)) | refine wD1 ?_ | refine wD2 ?_ | refine wE1 ?_ | refine wE2 ?_ | (refine wE3 ?_; intro _) | (refine wE4 ?_; intro _) | refine wN ?_ | ((with_reducible show evIs _ (_ :: _) _ _); first | refine wQ ?_ | refine wF ?_ | refine wG ?_ | refine wT ?_ | refine wM ?_ | refine wS ?_ | refine wP ?_ | refine wJ ?_ | refine wX ?_ | refine wY ?_ | refine wZ ?_ | refine wU ?_) | refine evDone ?_ | ((fail_if_success with_reducible show AW _ _ _ _ _); show AW _ _ _ _ _))
  clear hF
  try (show AW _ _ _ _ _)
  refine AW.ret (retI rfl ?_)
  simp [a13_res, resOk, resP, resV, ARes.op, R2s, R2, R1s, R1, closeOk, closeV]
theorem f16 (op k m n : Int) (s t : ByteArray) (b : Bool) (h13 : ACall Tryd.prog 13 [.int .i64 op, plV k m s, plV k n t] (· = .tup [boolV b, .int .i64 0])) : ACall Tryd.prog 16 [.int .i64 op, plV k m s, plV k n t] (· = .bool b) := by
  refine a16_of (by simp) ?_
  cases b
  · have hF := True.intro
    repeat (first | ((with_reducible show AW _ _ _ _ _); first | refine AW.seq ?_ | refine AW.block ?_ | refine AW.reg ?_ | refine AW.draw ?_ | (refine AW.condT ?_ ?_ ?_; (focus (simp [hF]; done)); (focus (simp [hF]; done))) | (refine AW.condF ?_ ?_ ?_; (focus (simp [hF]; done)); (focus (simp [hF]; done))) | (refine AW.skip ?_; show AW _ _ _ _ _)) | refine wD1 ?_ | refine wD2 ?_ | refine wE1 ?_ | refine wE2 ?_ | (refine wE3 ?_; intro _) | (refine wE4 ?_; intro _) | refine wN ?_ | ((with_reducible show evIs _ (_ :: _) _ _); first | refine wQ ?_ | refine wF ?_ | refine wG ?_ | refine wT ?_ | refine wM ?_ | refine wS ?_ | refine wP ?_ | refine wJ ?_ | refine wX ?_ | refine wY ?_ | refine wZ ?_ | refine wU ?_) | refine evDone ?_ | ((fail_if_success with_reducible show AW _ _ _ _ _); show AW _ _ _ _ _))
    clear hF
    try (show AW _ _ _ _ _)
    have hF := True.intro
    refine wC (hA := h13) ?_
    clear hF
    have hF := True.intro
    repeat (first | ((with_reducible show AW _ _ _ _ _); first | refine AW.seq ?_ | refine AW.block ?_ | refine AW.reg ?_ | refine AW.draw ?_ | (refine AW.condT ?_ ?_ ?_; (focus (simp [hF]; done)); (focus (simp [hF]; done))) | (refine AW.condF ?_ ?_ ?_; (focus (simp [hF]; done)); (focus (simp [hF]; done))) | (refine AW.skip ?_; show AW _ _ _ _ _)) | refine wD1 ?_ | refine wD2 ?_ | refine wE1 ?_ | refine wE2 ?_ | (refine wE3 ?_; intro _) | (refine wE4 ?_; intro _) | refine wN ?_ | ((with_reducible show evIs _ (_ :: _) _ _); first | refine wQ ?_ | refine wF ?_ | refine wG ?_ | refine wT ?_ | refine wM ?_ | refine wS ?_ | refine wP ?_ | refine wJ ?_ | refine wX ?_ | refine wY ?_ | refine wZ ?_ | refine wU ?_) | refine evDone ?_ | ((fail_if_success with_reducible show AW _ _ _ _ _); show AW _ _ _ _ _))
    clear hF
    try (show AW _ _ _ _ _)
    refine AW.ret (retI rfl ?_)
    simp [a16_res, resOk, resP, resV, ARes.op, R2s, R2, R1s, R1, closeOk, closeV]
  · have hF := True.intro
    repeat (first | ((with_reducible show AW _ _ _ _ _); first | refine AW.seq ?_ | refine AW.block ?_ | refine AW.reg ?_ | refine AW.draw ?_ | (refine AW.condT ?_ ?_ ?_; (focus (simp [hF]; done)); (focus (simp [hF]; done))) | (refine AW.condF ?_ ?_ ?_; (focus (simp [hF]; done)); (focus (simp [hF]; done))) | (refine AW.skip ?_; show AW _ _ _ _ _)) | refine wD1 ?_ | refine wD2 ?_ | refine wE1 ?_ | refine wE2 ?_ | (refine wE3 ?_; intro _) | (refine wE4 ?_; intro _) | refine wN ?_ | ((with_reducible show evIs _ (_ :: _) _ _); first | refine wQ ?_ | refine wF ?_ | refine wG ?_ | refine wT ?_ | refine wM ?_ | refine wS ?_ | refine wP ?_ | refine wJ ?_ | refine wX ?_ | refine wY ?_ | refine wZ ?_ | refine wU ?_) | refine evDone ?_ | ((fail_if_success with_reducible show AW _ _ _ _ _); show AW _ _ _ _ _))
    clear hF
    try (show AW _ _ _ _ _)
    have hF := True.intro
    refine wC (hA := h13) ?_
    clear hF
    have hF := True.intro
    repeat (first | ((with_reducible show AW _ _ _ _ _); first | refine AW.seq ?_ | refine AW.block ?_ | refine AW.reg ?_ | refine AW.draw ?_ | (refine AW.condT ?_ ?_ ?_; (focus (simp [hF]; done)); (focus (simp [hF]; done))) | (refine AW.condF ?_ ?_ ?_; (focus (simp [hF]; done)); (focus (simp [hF]; done))) | (refine AW.skip ?_; show AW _ _ _ _ _)) | refine wD1 ?_ | refine wD2 ?_ | refine wE1 ?_ | refine wE2 ?_ | (refine wE3 ?_; intro _) | (refine wE4 ?_; intro _) | refine wN ?_ | ((with_reducible show evIs _ (_ :: _) _ _); first | refine wQ ?_ | refine wF ?_ | refine wG ?_ | refine wT ?_ | refine wM ?_ | refine wS ?_ | refine wP ?_ | refine wJ ?_ | refine wX ?_ | refine wY ?_ | refine wZ ?_ | refine wU ?_) | refine evDone ?_ | ((fail_if_success with_reducible show AW _ _ _ _ _); show AW _ _ _ _ _))
    clear hF
    try (show AW _ _ _ _ _)
    refine AW.ret (retI rfl ?_)
    simp [a16_res, resOk, resP, resV, ARes.op, R2s, R2, R1s, R1, closeOk, closeV]
end Go.Proofs.YtcccedmhlennmaaDoor

set_option linter.unusedSimpArgs false
set_option linter.unusedVariables false
set_option maxHeartbeats 4000000
namespace Go.Proofs.YtcccedmhlennmaaDoor
open Go Go.Amb Go.IntWalk Go.Ops

/-- What the comparisons say of a pair: less, equal, more. -/
structure Says (A B : AV) (l s g : Bool) : Prop where
  lt : ACall Tryd.prog 16 [.int .i64 20, A, B] (· = .bool l)
  le : ACall Tryd.prog 16 [.int .i64 21, A, B] (· = .bool (l || s))
  gt : ACall Tryd.prog 16 [.int .i64 22, A, B] (· = .bool g)
  ge : ACall Tryd.prog 16 [.int .i64 23, A, B] (· = .bool (g || s))
  eq : ACall Tryd.prog 16 [.int .i64 24, A, B] (· = .bool s)
  ne : ACall Tryd.prog 16 [.int .i64 25, A, B] (· = .bool (!s))
  tl : ACall Tryd.prog 16 [.int .i64 20, B, A] (· = .bool g)
theorem says_of (k m n : Int) (s t : ByteArray) (l e g : Bool) (h3 : (l = true ∧ e = false ∧ g = false) ∨ (l = false ∧ e = true ∧ g = false) ∨ (l = false ∧ e = false ∧ g = true)) (he : decide (m = n ∧ s = t) = e)
    (h1 : ACall Tryd.prog 68 [plV k m s, plV k n t] (· = .tup [.int .i64 (rel3 l g), .bool true])) (h2 : ACall Tryd.prog 68 [plV k n t, plV k m s] (· = .tup [.int .i64 (rel3 g l), .bool true])) :
    Says (plV k m s) (plV k n t) l e g := by
  have hr : ∀ x y : Bool, rel3 x y = 0 ∨ rel3 x y = 1 ∨ rel3 x y = 2 := by intro x y; cases x <;> cases y <;> simp [rel3]
  have d1 := f13c 20 _ k m n s t (by simp) (hr _ _) h1
  have d2 := f13c 21 _ k m n s t (by simp) (hr _ _) h1
  have d3 := f13c 22 _ k m n s t (by simp) (hr _ _) h1
  have d4 := f13c 23 _ k m n s t (by simp) (hr _ _) h1
  have d5 := f13c 20 _ k n m t s (by simp) (hr _ _) h2
  have d6 := f13s k m n s t
  have d7 := f13d k m n s t
  rw [he] at d6 d7
  have e1 : cmp3 20 (rel3 l g) = l := by rcases h3 with ⟨rfl, rfl, rfl⟩ | ⟨rfl, rfl, rfl⟩ | ⟨rfl, rfl, rfl⟩ <;> rfl
  have e2 : cmp3 21 (rel3 l g) = (l || e) := by rcases h3 with ⟨rfl, rfl, rfl⟩ | ⟨rfl, rfl, rfl⟩ | ⟨rfl, rfl, rfl⟩ <;> rfl
  have e3 : cmp3 22 (rel3 l g) = g := by rcases h3 with ⟨rfl, rfl, rfl⟩ | ⟨rfl, rfl, rfl⟩ | ⟨rfl, rfl, rfl⟩ <;> rfl
  have e4 : cmp3 23 (rel3 l g) = (g || e) := by rcases h3 with ⟨rfl, rfl, rfl⟩ | ⟨rfl, rfl, rfl⟩ | ⟨rfl, rfl, rfl⟩ <;> rfl
  have e5 : cmp3 20 (rel3 g l) = g := by rcases h3 with ⟨rfl, rfl, rfl⟩ | ⟨rfl, rfl, rfl⟩ | ⟨rfl, rfl, rfl⟩ <;> rfl
  rw [e1] at d1; rw [e2] at d2; rw [e3] at d3; rw [e4] at d4; rw [e5] at d5
  exact ⟨f16 20 k m n s t _ d1, f16 21 k m n s t _ d2, f16 22 k m n s t _ d3, f16 23 k m n s t _ d4, f16 24 k m n s t _ d6, f16 25 k m n s t _ d7, f16 20 k n m t s _ d5⟩
theorem says_num (m n : Int) : ∃ l e g : Bool, ((l = true ∧ e = false ∧ g = false) ∨ (l = false ∧ e = true ∧ g = false) ∨ (l = false ∧ e = false ∧ g = true)) ∧ Says (plV 2 m ⟨#[]⟩) (plV 2 n ⟨#[]⟩) l e g := by
  have h3 : (decide (m < n) = true ∧ decide (m = n) = false ∧ decide (n < m) = false) ∨ (decide (m < n) = false ∧ decide (m = n) = true ∧ decide (n < m) = false) ∨ (decide (m < n) = false ∧ decide (m = n) = false ∧ decide (n < m) = true) := by
    simp only [decide_eq_true_eq, decide_eq_false_iff_not]
    omega
  exact ⟨_, _, _, h3, says_of 2 m n _ _ _ _ _ h3 (by simp) (f68n m n) (f68n n m)⟩
theorem says_text (s t : ByteArray) : ∃ l e g : Bool, ((l = true ∧ e = false ∧ g = false) ∨ (l = false ∧ e = true ∧ g = false) ∨ (l = false ∧ e = false ∧ g = true)) ∧ Says (plV 3 0 s) (plV 3 0 t) l e g := by
  have h3 : (Op.bytesLess s.toList t.toList = true ∧ decide (s = t) = false ∧ Op.bytesLess t.toList s.toList = false) ∨ (Op.bytesLess s.toList t.toList = false ∧ decide (s = t) = true ∧ Op.bytesLess t.toList s.toList = false) ∨ (Op.bytesLess s.toList t.toList = false ∧ decide (s = t) = false ∧ Op.bytesLess t.toList s.toList = true) := by
    rcases text_cases s t with ⟨h0, h1, h2⟩ | ⟨h0, h1, h2⟩ | ⟨h0, h1, h2⟩
    · exact .inr (.inl ⟨h1, by simp [h0], h2⟩)
    · exact .inl ⟨h1, by simp [h0], h2⟩
    · exact .inr (.inr ⟨h1, by simp [h0], h2⟩)
  exact ⟨_, _, _, h3, says_of 3 0 0 _ _ _ _ _ h3 (by simp) (f68t s t) (f68t t s)⟩
theorem f5 (m n : Int) (s t : ByteArray) : ACall Tryd.prog 5 [.int .i64 m, .int .i64 n, .str s, .str t] (· = .bool true) := by
  have h8 := f8
  have h14m := f14 m
  have h14n := f14 n
  have h15s := f15 s
  have h15t := f15 t
  have hw : IntKind.i64.wrap (0 + 1) = 1 ∧ IntKind.i64.wrap (1 + 1) = 2 ∧ IntKind.i64.wrap 1 = 1 ∧ IntKind.i64.wrap 2 = 2 := by decide
  refine a5_of (by simp) ?_
  by_cases h : 10000 < (s.size : Int)
  · have hF := h
    repeat (first | ((with_reducible show AW _ _ _ _ _); first | refine AW.seq ?_ | refine AW.block ?_ | refine AW.reg ?_ | refine AW.draw ?_ | (refine AW.condT ?_ ?_ ?_; (focus (simp [hF]; done)); (focus (simp [hF]; done))) | (refine AW.condF ?_ ?_ ?_; (focus (simp [hF]; done)); (focus (simp [hF]; done))) | (refine AW.skip ?_; show AW _ _ _ _ _)) | refine wD1 ?_ | refine wD2 ?_ | refine wE1 ?_ | refine wE2 ?_ | (refine wE3 ?_; intro _) | (refine wE4 ?_; intro _) | refine wN ?_ | ((with_reducible show evIs _ (_ :: _) _ _); first | refine wQ ?_ | refine wF ?_ | refine wG ?_ | refine wT ?_ | refine wM ?_ | refine wS ?_ | refine wP ?_ | refine wJ ?_ | refine wX ?_ | refine wY ?_ | refine wZ ?_ | refine wU ?_) | refine evDone ?_ | ((fail_if_success with_reducible show AW _ _ _ _ _); show AW _ _ _ _ _))
    clear hF
    try (show AW _ _ _ _ _)
    have hF := True.intro
    refine wC (hA := h8) ?_
    clear hF
    have hF := True.intro
    repeat (first | ((with_reducible show AW _ _ _ _ _); first | refine AW.seq ?_ | refine AW.block ?_ | refine AW.reg ?_ | refine AW.draw ?_ | (refine AW.condT ?_ ?_ ?_; (focus (simp [hF]; done)); (focus (simp [hF]; done))) | (refine AW.condF ?_ ?_ ?_; (focus (simp [hF]; done)); (focus (simp [hF]; done))) | (refine AW.skip ?_; show AW _ _ _ _ _)) | refine wD1 ?_ | refine wD2 ?_ | refine wE1 ?_ | refine wE2 ?_ | (refine wE3 ?_; intro _) | (refine wE4 ?_; intro _) | refine wN ?_ | ((with_reducible show evIs _ (_ :: _) _ _); first | refine wQ ?_ | refine wF ?_ | refine wG ?_ | refine wT ?_ | refine wM ?_ | refine wS ?_ | refine wP ?_ | refine wJ ?_ | refine wX ?_ | refine wY ?_ | refine wZ ?_ | refine wU ?_) | refine evDone ?_ | ((fail_if_success with_reducible show AW _ _ _ _ _); show AW _ _ _ _ _))
    clear hF
    try (show AW _ _ _ _ _)
    refine AW.ret (retI rfl ?_)
    simp [a5_res, resOk, resP, resV, ARes.op, R2s, R2, R1s, R1, closeOk, closeV]
  by_cases h' : 10000 < (t.size : Int)
  · have hF := And.intro (h) (h')
    repeat (first | ((with_reducible show AW _ _ _ _ _); first | refine AW.seq ?_ | refine AW.block ?_ | refine AW.reg ?_ | refine AW.draw ?_ | (refine AW.condT ?_ ?_ ?_; (focus (simp [hF]; done)); (focus (simp [hF]; done))) | (refine AW.condF ?_ ?_ ?_; (focus (simp [hF]; done)); (focus (simp [hF]; done))) | (refine AW.skip ?_; show AW _ _ _ _ _)) | refine wD1 ?_ | refine wD2 ?_ | refine wE1 ?_ | refine wE2 ?_ | (refine wE3 ?_; intro _) | (refine wE4 ?_; intro _) | refine wN ?_ | ((with_reducible show evIs _ (_ :: _) _ _); first | refine wQ ?_ | refine wF ?_ | refine wG ?_ | refine wT ?_ | refine wM ?_ | refine wS ?_ | refine wP ?_ | refine wJ ?_ | refine wX ?_ | refine wY ?_ | refine wZ ?_ | refine wU ?_) | refine evDone ?_ | ((fail_if_success with_reducible show AW _ _ _ _ _); show AW _ _ _ _ _))
    clear hF
    try (show AW _ _ _ _ _)
    have hF := True.intro
    refine wC (hA := h8) ?_
    clear hF
    have hF := True.intro
    repeat (first | ((with_reducible show AW _ _ _ _ _); first | refine AW.seq ?_ | refine AW.block ?_ | refine AW.reg ?_ | refine AW.draw ?_ | (refine AW.condT ?_ ?_ ?_; (focus (simp [hF]; done)); (focus (simp [hF]; done))) | (refine AW.condF ?_ ?_ ?_; (focus (simp [hF]; done)); (focus (simp [hF]; done))) | (refine AW.skip ?_; show AW _ _ _ _ _)) | refine wD1 ?_ | refine wD2 ?_ | refine wE1 ?_ | refine wE2 ?_ | (refine wE3 ?_; intro _) | (refine wE4 ?_; intro _) | refine wN ?_ | ((with_reducible show evIs _ (_ :: _) _ _); first | refine wQ ?_ | refine wF ?_ | refine wG ?_ | refine wT ?_ | refine wM ?_ | refine wS ?_ | refine wP ?_ | refine wJ ?_ | refine wX ?_ | refine wY ?_ | refine wZ ?_ | refine wU ?_) | refine evDone ?_ | ((fail_if_success with_reducible show AW _ _ _ _ _); show AW _ _ _ _ _))
    clear hF
    try (show AW _ _ _ _ _)
    refine AW.ret (retI rfl ?_)
    simp [a5_res, resOk, resP, resV, ARes.op, R2s, R2, R1s, R1, closeOk, closeV]
  obtain ⟨nl, ne, ng, hn3, hn⟩ := says_num m n
  obtain ⟨sl, se, sg, hs3, hs⟩ := says_text s t
  obtain ⟨nlt, nle, ngt, nge, neq, nne, ntl⟩ := hn
  obtain ⟨slt, sle, sgt, sge, seq, sne, stl⟩ := hs
  have hF := And.intro (h) (h')
  repeat (first | ((with_reducible show AW _ _ _ _ _); first | refine AW.seq ?_ | refine AW.block ?_ | refine AW.reg ?_ | refine AW.draw ?_ | (refine AW.condT ?_ ?_ ?_; (focus (simp [hF]; done)); (focus (simp [hF]; done))) | (refine AW.condF ?_ ?_ ?_; (focus (simp [hF]; done)); (focus (simp [hF]; done))) | (refine AW.skip ?_; show AW _ _ _ _ _)) | refine wD1 ?_ | refine wD2 ?_ | refine wE1 ?_ | refine wE2 ?_ | (refine wE3 ?_; intro _) | (refine wE4 ?_; intro _) | refine wN ?_ | ((with_reducible show evIs _ (_ :: _) _ _); first | refine wQ ?_ | refine wF ?_ | refine wG ?_ | refine wT ?_ | refine wM ?_ | refine wS ?_ | refine wP ?_ | refine wJ ?_ | refine wX ?_ | refine wY ?_ | refine wZ ?_ | refine wU ?_) | refine evDone ?_ | ((fail_if_success with_reducible show AW _ _ _ _ _); show AW _ _ _ _ _))
  clear hF
  try (show AW _ _ _ _ _)
  have hF := True.intro
  refine wC (hA := h14m) ?_
  clear hF
  have hF := True.intro
  repeat (first | ((with_reducible show AW _ _ _ _ _); first | refine AW.seq ?_ | refine AW.block ?_ | refine AW.reg ?_ | refine AW.draw ?_ | (refine AW.condT ?_ ?_ ?_; (focus (simp [hF]; done)); (focus (simp [hF]; done))) | (refine AW.condF ?_ ?_ ?_; (focus (simp [hF]; done)); (focus (simp [hF]; done))) | (refine AW.skip ?_; show AW _ _ _ _ _)) | refine wD1 ?_ | refine wD2 ?_ | refine wE1 ?_ | refine wE2 ?_ | (refine wE3 ?_; intro _) | (refine wE4 ?_; intro _) | refine wN ?_ | ((with_reducible show evIs _ (_ :: _) _ _); first | refine wQ ?_ | refine wF ?_ | refine wG ?_ | refine wT ?_ | refine wM ?_ | refine wS ?_ | refine wP ?_ | refine wJ ?_ | refine wX ?_ | refine wY ?_ | refine wZ ?_ | refine wU ?_) | refine evDone ?_ | ((fail_if_success with_reducible show AW _ _ _ _ _); show AW _ _ _ _ _))
  clear hF
  try (show AW _ _ _ _ _)
  have hF := True.intro
  refine wC (hA := h14n) ?_
  clear hF
  have hF := True.intro
  repeat (first | ((with_reducible show AW _ _ _ _ _); first | refine AW.seq ?_ | refine AW.block ?_ | refine AW.reg ?_ | refine AW.draw ?_ | (refine AW.condT ?_ ?_ ?_; (focus (simp [hF]; done)); (focus (simp [hF]; done))) | (refine AW.condF ?_ ?_ ?_; (focus (simp [hF]; done)); (focus (simp [hF]; done))) | (refine AW.skip ?_; show AW _ _ _ _ _)) | refine wD1 ?_ | refine wD2 ?_ | refine wE1 ?_ | refine wE2 ?_ | (refine wE3 ?_; intro _) | (refine wE4 ?_; intro _) | refine wN ?_ | ((with_reducible show evIs _ (_ :: _) _ _); first | refine wQ ?_ | refine wF ?_ | refine wG ?_ | refine wT ?_ | refine wM ?_ | refine wS ?_ | refine wP ?_ | refine wJ ?_ | refine wX ?_ | refine wY ?_ | refine wZ ?_ | refine wU ?_) | refine evDone ?_ | ((fail_if_success with_reducible show AW _ _ _ _ _); show AW _ _ _ _ _))
  clear hF
  try (show AW _ _ _ _ _)
  have hF := True.intro
  refine wC (hA := h15s) ?_
  clear hF
  have hF := True.intro
  repeat (first | ((with_reducible show AW _ _ _ _ _); first | refine AW.seq ?_ | refine AW.block ?_ | refine AW.reg ?_ | refine AW.draw ?_ | (refine AW.condT ?_ ?_ ?_; (focus (simp [hF]; done)); (focus (simp [hF]; done))) | (refine AW.condF ?_ ?_ ?_; (focus (simp [hF]; done)); (focus (simp [hF]; done))) | (refine AW.skip ?_; show AW _ _ _ _ _)) | refine wD1 ?_ | refine wD2 ?_ | refine wE1 ?_ | refine wE2 ?_ | (refine wE3 ?_; intro _) | (refine wE4 ?_; intro _) | refine wN ?_ | ((with_reducible show evIs _ (_ :: _) _ _); first | refine wQ ?_ | refine wF ?_ | refine wG ?_ | refine wT ?_ | refine wM ?_ | refine wS ?_ | refine wP ?_ | refine wJ ?_ | refine wX ?_ | refine wY ?_ | refine wZ ?_ | refine wU ?_) | refine evDone ?_ | ((fail_if_success with_reducible show AW _ _ _ _ _); show AW _ _ _ _ _))
  clear hF
  try (show AW _ _ _ _ _)
  have hF := True.intro
  refine wC (hA := h15t) ?_
  clear hF
  have hF := True.intro
  repeat (first | ((with_reducible show AW _ _ _ _ _); first | refine AW.seq ?_ | refine AW.block ?_ | refine AW.reg ?_ | refine AW.draw ?_ | (refine AW.condT ?_ ?_ ?_; (focus (simp [hF]; done)); (focus (simp [hF]; done))) | (refine AW.condF ?_ ?_ ?_; (focus (simp [hF]; done)); (focus (simp [hF]; done))) | (refine AW.skip ?_; show AW _ _ _ _ _)) | refine wD1 ?_ | refine wD2 ?_ | refine wE1 ?_ | refine wE2 ?_ | (refine wE3 ?_; intro _) | (refine wE4 ?_; intro _) | refine wN ?_ | ((with_reducible show evIs _ (_ :: _) _ _); first | refine wQ ?_ | refine wF ?_ | refine wG ?_ | refine wT ?_ | refine wM ?_ | refine wS ?_ | refine wP ?_ | refine wJ ?_ | refine wX ?_ | refine wY ?_ | refine wZ ?_ | refine wU ?_) | refine evDone ?_ | ((fail_if_success with_reducible show AW _ _ _ _ _); show AW _ _ _ _ _))
  clear hF
  try (show AW _ _ _ _ _)
  refine AW.loop (fun g : Nat => g ≤ 2) (fun g => mkS [(0, .int .i64 m), (1, .int .i64 n), (2, .str s), (3, .str t), (8, .bool false), (9, .sl .ext [.sl .ext [plV 2 m ⟨#[]⟩, plV 2 n ⟨#[]⟩], .sl .ext [plV 3 0 s, plV 3 0 t]]), (10, .int .i64 g)] [] (90 + 400 * g)) (fun g => 2 - g) 0 (by omega) ?_ ?_
  · refine Fit.mk _ _ _ (by simp [conv2, newEmp, convs_refl, convs, conv]) (by simp [heapFit, newEmp, conv2s, conv2, convs_refl, convs, conv]) (by intro q hq; first | (simp at hq; done) | (simp at hq; omega) | (simp at hq; simp; omega))
  intro g hg
  rcases (show g = 0 ∨ g = 1 ∨ g = 2 by omega) with rfl | rfl | rfl
  · repeat refine AW.seq ?_
    refine AW.reg ?_
    have hF := elemAt.eq_1
    repeat (first | refine wD1 ?_ | refine wD2 ?_ | refine wE1 ?_ | refine wE2 ?_ | (refine wE3 ?_; intro _) | (refine wE4 ?_; intro _) | refine wN ?_ | ((with_reducible show evIs _ (_ :: _) _ _); first | refine wQ ?_ | refine wF ?_ | refine wG ?_ | refine wT ?_ | refine wM ?_ | refine wS ?_ | refine wP ?_ | refine wJ ?_ | refine wX ?_ | refine wY ?_ | refine wZ ?_ | refine wU ?_))
    clear hF
    repeat refine evDone ?_
    try (show AW _ _ _ _ _)
    repeat refine AW.seq ?_
    refine AW.condT (by simp []) (by simp []) ?_
    refine AW.skip ?_
    show AW _ _ _ _ _
    refine AW.seq (AW.block ?_)
    refine AW.cutE (fun _ : Unit => mkS [(0, .int .i64 m), (1, .int .i64 n), (2, .str s), (3, .str t), (8, .bool false), (9, .sl .ext [.sl .ext [plV 2 m ⟨#[]⟩, plV 2 n ⟨#[]⟩], .sl .ext [plV 3 0 s, plV 3 0 t]]), (10, .int .i64 0), (11, .ptr 130 0 0), (12, .ptr 131 0 0)] [(130, ⟨5, true, [plV 2 m ⟨#[]⟩]⟩), (131, ⟨5, true, [plV 2 n ⟨#[]⟩]⟩)] 300) (fun _ => True) ?_ ?_
    · have hF := elemAt.eq_1
      repeat (first | ((with_reducible show AW _ _ _ _ _); first | refine AW.seq ?_ | refine AW.block ?_ | refine AW.reg ?_ | refine AW.draw ?_ | (refine AW.condT ?_ ?_ ?_; (focus (simp [hF]; done)); (focus (simp [hF]; done))) | (refine AW.condF ?_ ?_ ?_; (focus (simp [hF]; done)); (focus (simp [hF]; done))) | (refine AW.skip ?_; show AW _ _ _ _ _)) | refine wD1 ?_ | refine wD2 ?_ | refine wE1 ?_ | refine wE2 ?_ | (refine wE3 ?_; intro _) | (refine wE4 ?_; intro _) | refine wN ?_ | ((with_reducible show evIs _ (_ :: _) _ _); first | refine wQ ?_ | refine wF ?_ | refine wG ?_ | refine wT ?_ | refine wM ?_ | refine wS ?_ | refine wP ?_ | refine wJ ?_ | refine wX ?_ | refine wY ?_ | refine wZ ?_ | refine wU ?_) | refine evDone ?_ | ((fail_if_success with_reducible show AW _ _ _ _ _); show AW _ _ _ _ _))
      clear hF
      try (show AW _ _ _ _ _)
      refine evTwo ?_ ?_
      · have hF := True.intro
        repeat (first | ((with_reducible show AW _ _ _ _ _); first | refine AW.seq ?_ | refine AW.block ?_ | refine AW.reg ?_ | refine AW.draw ?_ | (refine AW.condT ?_ ?_ ?_; (focus (simp [hF]; done)); (focus (simp [hF]; done))) | (refine AW.condF ?_ ?_ ?_; (focus (simp [hF]; done)); (focus (simp [hF]; done))) | (refine AW.skip ?_; show AW _ _ _ _ _)) | refine wD1 ?_ | refine wD2 ?_ | refine wE1 ?_ | refine wE2 ?_ | (refine wE3 ?_; intro _) | (refine wE4 ?_; intro _) | refine wN ?_ | ((with_reducible show evIs _ (_ :: _) _ _); first | refine wQ ?_ | refine wF ?_ | refine wG ?_ | refine wT ?_ | refine wM ?_ | refine wS ?_ | refine wP ?_ | refine wJ ?_ | refine wX ?_ | refine wY ?_ | refine wZ ?_ | refine wU ?_) | refine evDone ?_ | ((fail_if_success with_reducible show AW _ _ _ _ _); show AW _ _ _ _ _))
        clear hF
        try (show AW _ _ _ _ _)
        refine ⟨rfl, (), trivial, ?_⟩
        refine Fit.mk _ _ _ (by simp [conv2, newEmp, convs_refl, convs, conv]) (by simp [heapFit, newEmp, conv2s, conv2, convs_refl, convs, conv]) (by intro q hq; first | (simp at hq; done) | (simp at hq; omega) | (simp at hq; simp; omega))
      · have hF := True.intro
        repeat (first | ((with_reducible show AW _ _ _ _ _); first | refine AW.seq ?_ | refine AW.block ?_ | refine AW.reg ?_ | refine AW.draw ?_ | (refine AW.condT ?_ ?_ ?_; (focus (simp [hF]; done)); (focus (simp [hF]; done))) | (refine AW.condF ?_ ?_ ?_; (focus (simp [hF]; done)); (focus (simp [hF]; done))) | (refine AW.skip ?_; show AW _ _ _ _ _)) | refine wD1 ?_ | refine wD2 ?_ | refine wE1 ?_ | refine wE2 ?_ | (refine wE3 ?_; intro _) | (refine wE4 ?_; intro _) | refine wN ?_ | ((with_reducible show evIs _ (_ :: _) _ _); first | refine wQ ?_ | refine wF ?_ | refine wG ?_ | refine wT ?_ | refine wM ?_ | refine wS ?_ | refine wP ?_ | refine wJ ?_ | refine wX ?_ | refine wY ?_ | refine wZ ?_ | refine wU ?_) | refine evDone ?_ | ((fail_if_success with_reducible show AW _ _ _ _ _); show AW _ _ _ _ _))
        clear hF
        try (show AW _ _ _ _ _)
        refine ⟨rfl, (), trivial, ?_⟩
        refine Fit.mk _ _ _ (by simp [conv2, newEmp, convs_refl, convs, conv]) (by simp [heapFit, newEmp, conv2s, conv2, convs_refl, convs, conv]) (by intro q hq; first | (simp at hq; done) | (simp at hq; omega) | (simp at hq; simp; omega))
    intro _ _
    rw [mkS_eq]
    refine AW.cutE (fun _ : Unit => mkS [(0, .int .i64 m), (1, .int .i64 n), (2, .str s), (3, .str t), (8, .bool false), (9, .sl .ext [.sl .ext [plV 2 m ⟨#[]⟩, plV 2 n ⟨#[]⟩], .sl .ext [plV 3 0 s, plV 3 0 t]]), (10, .int .i64 0), (11, .ptr 130 0 0), (12, .ptr 131 0 0), (13, .bool nl), (14, .bool ne), (15, .bool ng)] [(130, ⟨5, true, [plV 2 m ⟨#[]⟩]⟩), (131, ⟨5, true, [plV 2 n ⟨#[]⟩]⟩)] 390) (fun _ => True) ?_ ?_
    · have hF := True.intro
      repeat (first | ((with_reducible show AW _ _ _ _ _); first | refine AW.seq ?_ | refine AW.block ?_ | refine AW.reg ?_ | refine AW.draw ?_ | (refine AW.condT ?_ ?_ ?_; (focus (simp [hF]; done)); (focus (simp [hF]; done))) | (refine AW.condF ?_ ?_ ?_; (focus (simp [hF]; done)); (focus (simp [hF]; done))) | (refine AW.skip ?_; show AW _ _ _ _ _)) | refine wD1 ?_ | refine wD2 ?_ | refine wE1 ?_ | refine wE2 ?_ | (refine wE3 ?_; intro _) | (refine wE4 ?_; intro _) | refine wN ?_ | ((with_reducible show evIs _ (_ :: _) _ _); first | refine wQ ?_ | refine wF ?_ | refine wG ?_ | refine wT ?_ | refine wM ?_ | refine wS ?_ | refine wP ?_ | refine wJ ?_ | refine wX ?_ | refine wY ?_ | refine wZ ?_ | refine wU ?_) | refine evDone ?_ | ((fail_if_success with_reducible show AW _ _ _ _ _); show AW _ _ _ _ _))
      clear hF
      try (show AW _ _ _ _ _)
      have hF := True.intro
      refine wC (hA := nlt) ?_
      clear hF
      have hF := True.intro
      repeat (first | ((with_reducible show AW _ _ _ _ _); first | refine AW.seq ?_ | refine AW.block ?_ | refine AW.reg ?_ | refine AW.draw ?_ | (refine AW.condT ?_ ?_ ?_; (focus (simp [hF]; done)); (focus (simp [hF]; done))) | (refine AW.condF ?_ ?_ ?_; (focus (simp [hF]; done)); (focus (simp [hF]; done))) | (refine AW.skip ?_; show AW _ _ _ _ _)) | refine wD1 ?_ | refine wD2 ?_ | refine wE1 ?_ | refine wE2 ?_ | (refine wE3 ?_; intro _) | (refine wE4 ?_; intro _) | refine wN ?_ | ((with_reducible show evIs _ (_ :: _) _ _); first | refine wQ ?_ | refine wF ?_ | refine wG ?_ | refine wT ?_ | refine wM ?_ | refine wS ?_ | refine wP ?_ | refine wJ ?_ | refine wX ?_ | refine wY ?_ | refine wZ ?_ | refine wU ?_) | refine evDone ?_ | ((fail_if_success with_reducible show AW _ _ _ _ _); show AW _ _ _ _ _))
      clear hF
      try (show AW _ _ _ _ _)
      have hF := True.intro
      refine wC (hA := neq) ?_
      clear hF
      have hF := True.intro
      repeat (first | ((with_reducible show AW _ _ _ _ _); first | refine AW.seq ?_ | refine AW.block ?_ | refine AW.reg ?_ | refine AW.draw ?_ | (refine AW.condT ?_ ?_ ?_; (focus (simp [hF]; done)); (focus (simp [hF]; done))) | (refine AW.condF ?_ ?_ ?_; (focus (simp [hF]; done)); (focus (simp [hF]; done))) | (refine AW.skip ?_; show AW _ _ _ _ _)) | refine wD1 ?_ | refine wD2 ?_ | refine wE1 ?_ | refine wE2 ?_ | (refine wE3 ?_; intro _) | (refine wE4 ?_; intro _) | refine wN ?_ | ((with_reducible show evIs _ (_ :: _) _ _); first | refine wQ ?_ | refine wF ?_ | refine wG ?_ | refine wT ?_ | refine wM ?_ | refine wS ?_ | refine wP ?_ | refine wJ ?_ | refine wX ?_ | refine wY ?_ | refine wZ ?_ | refine wU ?_) | refine evDone ?_ | ((fail_if_success with_reducible show AW _ _ _ _ _); show AW _ _ _ _ _))
      clear hF
      try (show AW _ _ _ _ _)
      have hF := True.intro
      refine wC (hA := ngt) ?_
      clear hF
      have hF := True.intro
      repeat (first | ((with_reducible show AW _ _ _ _ _); first | refine AW.seq ?_ | refine AW.block ?_ | refine AW.reg ?_ | refine AW.draw ?_ | (refine AW.condT ?_ ?_ ?_; (focus (simp [hF]; done)); (focus (simp [hF]; done))) | (refine AW.condF ?_ ?_ ?_; (focus (simp [hF]; done)); (focus (simp [hF]; done))) | (refine AW.skip ?_; show AW _ _ _ _ _)) | refine wD1 ?_ | refine wD2 ?_ | refine wE1 ?_ | refine wE2 ?_ | (refine wE3 ?_; intro _) | (refine wE4 ?_; intro _) | refine wN ?_ | ((with_reducible show evIs _ (_ :: _) _ _); first | refine wQ ?_ | refine wF ?_ | refine wG ?_ | refine wT ?_ | refine wM ?_ | refine wS ?_ | refine wP ?_ | refine wJ ?_ | refine wX ?_ | refine wY ?_ | refine wZ ?_ | refine wU ?_) | refine evDone ?_ | ((fail_if_success with_reducible show AW _ _ _ _ _); show AW _ _ _ _ _))
      clear hF
      try (show AW _ _ _ _ _)
      refine ⟨rfl, (), trivial, ?_⟩
      refine Fit.mk _ _ _ (by simp [conv2, newEmp, convs_refl, convs, conv]) (by simp [heapFit, newEmp, conv2s, conv2, convs_refl, convs, conv]) (by intro q hq; first | (simp at hq; done) | (simp at hq; omega) | (simp at hq; simp; omega))
    intro _ _
    rw [mkS_eq]
    rcases hn3 with ⟨rfl, rfl, rfl⟩ | ⟨rfl, rfl, rfl⟩ | ⟨rfl, rfl, rfl⟩
    all_goals
      have hF := True.intro
      repeat (first | ((with_reducible show AW _ _ _ _ _); first | refine AW.seq ?_ | refine AW.block ?_ | refine AW.reg ?_ | refine AW.draw ?_ | (refine AW.condT ?_ ?_ ?_; (focus (simp [hF]; done)); (focus (simp [hF]; done))) | (refine AW.condF ?_ ?_ ?_; (focus (simp [hF]; done)); (focus (simp [hF]; done))) | (refine AW.skip ?_; show AW _ _ _ _ _)) | refine wD1 ?_ | refine wD2 ?_ | refine wE1 ?_ | refine wE2 ?_ | (refine wE3 ?_; intro _) | (refine wE4 ?_; intro _) | refine wN ?_ | ((with_reducible show evIs _ (_ :: _) _ _); first | refine wQ ?_ | refine wF ?_ | refine wG ?_ | refine wT ?_ | refine wM ?_ | refine wS ?_ | refine wP ?_ | refine wJ ?_ | refine wX ?_ | refine wY ?_ | refine wZ ?_ | refine wU ?_) | refine evDone ?_ | ((fail_if_success with_reducible show AW _ _ _ _ _); show AW _ _ _ _ _))
      clear hF
      try (show AW _ _ _ _ _)
      have hF := True.intro
      refine wC (hA := nle) ?_
      clear hF
      have hF := True.intro
      repeat (first | ((with_reducible show AW _ _ _ _ _); first | refine AW.seq ?_ | refine AW.block ?_ | refine AW.reg ?_ | refine AW.draw ?_ | (refine AW.condT ?_ ?_ ?_; (focus (simp [hF]; done)); (focus (simp [hF]; done))) | (refine AW.condF ?_ ?_ ?_; (focus (simp [hF]; done)); (focus (simp [hF]; done))) | (refine AW.skip ?_; show AW _ _ _ _ _)) | refine wD1 ?_ | refine wD2 ?_ | refine wE1 ?_ | refine wE2 ?_ | (refine wE3 ?_; intro _) | (refine wE4 ?_; intro _) | refine wN ?_ | ((with_reducible show evIs _ (_ :: _) _ _); first | refine wQ ?_ | refine wF ?_ | refine wG ?_ | refine wT ?_ | refine wM ?_ | refine wS ?_ | refine wP ?_ | refine wJ ?_ | refine wX ?_ | refine wY ?_ | refine wZ ?_ | refine wU ?_) | refine evDone ?_ | ((fail_if_success with_reducible show AW _ _ _ _ _); show AW _ _ _ _ _))
      clear hF
      try (show AW _ _ _ _ _)
      have hF := True.intro
      refine wC (hA := nge) ?_
      clear hF
      have hF := True.intro
      repeat (first | ((with_reducible show AW _ _ _ _ _); first | refine AW.seq ?_ | refine AW.block ?_ | refine AW.reg ?_ | refine AW.draw ?_ | (refine AW.condT ?_ ?_ ?_; (focus (simp [hF]; done)); (focus (simp [hF]; done))) | (refine AW.condF ?_ ?_ ?_; (focus (simp [hF]; done)); (focus (simp [hF]; done))) | (refine AW.skip ?_; show AW _ _ _ _ _)) | refine wD1 ?_ | refine wD2 ?_ | refine wE1 ?_ | refine wE2 ?_ | (refine wE3 ?_; intro _) | (refine wE4 ?_; intro _) | refine wN ?_ | ((with_reducible show evIs _ (_ :: _) _ _); first | refine wQ ?_ | refine wF ?_ | refine wG ?_ | refine wT ?_ | refine wM ?_ | refine wS ?_ | refine wP ?_ | refine wJ ?_ | refine wX ?_ | refine wY ?_ | refine wZ ?_ | refine wU ?_) | refine evDone ?_ | ((fail_if_success with_reducible show AW _ _ _ _ _); show AW _ _ _ _ _))
      clear hF
      try (show AW _ _ _ _ _)
      have hF := True.intro
      refine wC (hA := nne) ?_
      clear hF
      have hF := True.intro
      repeat (first | ((with_reducible show AW _ _ _ _ _); first | refine AW.seq ?_ | refine AW.block ?_ | refine AW.reg ?_ | refine AW.draw ?_ | (refine AW.condT ?_ ?_ ?_; (focus (simp [hF]; done)); (focus (simp [hF]; done))) | (refine AW.condF ?_ ?_ ?_; (focus (simp [hF]; done)); (focus (simp [hF]; done))) | (refine AW.skip ?_; show AW _ _ _ _ _)) | refine wD1 ?_ | refine wD2 ?_ | refine wE1 ?_ | refine wE2 ?_ | (refine wE3 ?_; intro _) | (refine wE4 ?_; intro _) | refine wN ?_ | ((with_reducible show evIs _ (_ :: _) _ _); first | refine wQ ?_ | refine wF ?_ | refine wG ?_ | refine wT ?_ | refine wM ?_ | refine wS ?_ | refine wP ?_ | refine wJ ?_ | refine wX ?_ | refine wY ?_ | refine wZ ?_ | refine wU ?_) | refine evDone ?_ | ((fail_if_success with_reducible show AW _ _ _ _ _); show AW _ _ _ _ _))
      clear hF
      try (show AW _ _ _ _ _)
      have hF := True.intro
      refine wC (hA := ntl) ?_
      clear hF
      have hF := hw
      repeat (first | ((with_reducible show AW _ _ _ _ _); first | refine AW.seq ?_ | refine AW.block ?_ | refine AW.reg ?_ | refine AW.draw ?_ | (refine AW.condT ?_ ?_ ?_; (focus (simp [hF]; done)); (focus (simp [hF]; done))) | (refine AW.condF ?_ ?_ ?_; (focus (simp [hF]; done)); (focus (simp [hF]; done))) | (refine AW.skip ?_; show AW _ _ _ _ _)) | refine wD1 ?_ | refine wD2 ?_ | refine wE1 ?_ | refine wE2 ?_ | (refine wE3 ?_; intro _) | (refine wE4 ?_; intro _) | refine wN ?_ | ((with_reducible show evIs _ (_ :: _) _ _); first | refine wQ ?_ | refine wF ?_ | refine wG ?_ | refine wT ?_ | refine wM ?_ | refine wS ?_ | refine wP ?_ | refine wJ ?_ | refine wX ?_ | refine wY ?_ | refine wZ ?_ | refine wU ?_) | refine evDone ?_ | ((fail_if_success with_reducible show AW _ _ _ _ _); show AW _ _ _ _ _))
      clear hF
      try (show AW _ _ _ _ _)
      refine ⟨1, by omega, by omega, ?_⟩
      refine Fit.mk _ _ _ (by simp [hw, conv2, newEmp, convs_refl, convs, conv]) (by simp [hw, heapFit, newEmp, conv2s, conv2, convs_refl, convs, conv]) (by intro q hq; first | (simp at hq; done) | (simp at hq; omega) | (simp at hq; simp; omega))
  · repeat refine AW.seq ?_
    refine AW.reg ?_
    have hF := elemAt.eq_1
    repeat (first | refine wD1 ?_ | refine wD2 ?_ | refine wE1 ?_ | refine wE2 ?_ | (refine wE3 ?_; intro _) | (refine wE4 ?_; intro _) | refine wN ?_ | ((with_reducible show evIs _ (_ :: _) _ _); first | refine wQ ?_ | refine wF ?_ | refine wG ?_ | refine wT ?_ | refine wM ?_ | refine wS ?_ | refine wP ?_ | refine wJ ?_ | refine wX ?_ | refine wY ?_ | refine wZ ?_ | refine wU ?_))
    clear hF
    repeat refine evDone ?_
    try (show AW _ _ _ _ _)
    repeat refine AW.seq ?_
    refine AW.condT (by simp []) (by simp []) ?_
    refine AW.skip ?_
    show AW _ _ _ _ _
    refine AW.seq (AW.block ?_)
    refine AW.cutE (fun _ : Unit => mkS [(0, .int .i64 m), (1, .int .i64 n), (2, .str s), (3, .str t), (8, .bool false), (9, .sl .ext [.sl .ext [plV 2 m ⟨#[]⟩, plV 2 n ⟨#[]⟩], .sl .ext [plV 3 0 s, plV 3 0 t]]), (10, .int .i64 1), (11, .ptr 530 0 0), (12, .ptr 531 0 0)] [(530, ⟨5, true, [plV 3 0 s]⟩), (531, ⟨5, true, [plV 3 0 t]⟩)] 700) (fun _ => True) ?_ ?_
    · have hF := elemAt.eq_1
      repeat (first | ((with_reducible show AW _ _ _ _ _); first | refine AW.seq ?_ | refine AW.block ?_ | refine AW.reg ?_ | refine AW.draw ?_ | (refine AW.condT ?_ ?_ ?_; (focus (simp [hF]; done)); (focus (simp [hF]; done))) | (refine AW.condF ?_ ?_ ?_; (focus (simp [hF]; done)); (focus (simp [hF]; done))) | (refine AW.skip ?_; show AW _ _ _ _ _)) | refine wD1 ?_ | refine wD2 ?_ | refine wE1 ?_ | refine wE2 ?_ | (refine wE3 ?_; intro _) | (refine wE4 ?_; intro _) | refine wN ?_ | ((with_reducible show evIs _ (_ :: _) _ _); first | refine wQ ?_ | refine wF ?_ | refine wG ?_ | refine wT ?_ | refine wM ?_ | refine wS ?_ | refine wP ?_ | refine wJ ?_ | refine wX ?_ | refine wY ?_ | refine wZ ?_ | refine wU ?_) | refine evDone ?_ | ((fail_if_success with_reducible show AW _ _ _ _ _); show AW _ _ _ _ _))
      clear hF
      try (show AW _ _ _ _ _)
      refine evTwo ?_ ?_
      · have hF := True.intro
        repeat (first | ((with_reducible show AW _ _ _ _ _); first | refine AW.seq ?_ | refine AW.block ?_ | refine AW.reg ?_ | refine AW.draw ?_ | (refine AW.condT ?_ ?_ ?_; (focus (simp [hF]; done)); (focus (simp [hF]; done))) | (refine AW.condF ?_ ?_ ?_; (focus (simp [hF]; done)); (focus (simp [hF]; done))) | (refine AW.skip ?_; show AW _ _ _ _ _)) | refine wD1 ?_ | refine wD2 ?_ | refine wE1 ?_ | refine wE2 ?_ | (refine wE3 ?_; intro _) | (refine wE4 ?_; intro _) | refine wN ?_ | ((with_reducible show evIs _ (_ :: _) _ _); first | refine wQ ?_ | refine wF ?_ | refine wG ?_ | refine wT ?_ | refine wM ?_ | refine wS ?_ | refine wP ?_ | refine wJ ?_ | refine wX ?_ | refine wY ?_ | refine wZ ?_ | refine wU ?_) | refine evDone ?_ | ((fail_if_success with_reducible show AW _ _ _ _ _); show AW _ _ _ _ _))
        clear hF
        try (show AW _ _ _ _ _)
        refine ⟨rfl, (), trivial, ?_⟩
        refine Fit.mk _ _ _ (by simp [conv2, newEmp, convs_refl, convs, conv]) (by simp [heapFit, newEmp, conv2s, conv2, convs_refl, convs, conv]) (by intro q hq; first | (simp at hq; done) | (simp at hq; omega) | (simp at hq; simp; omega))
      · have hF := True.intro
        repeat (first | ((with_reducible show AW _ _ _ _ _); first | refine AW.seq ?_ | refine AW.block ?_ | refine AW.reg ?_ | refine AW.draw ?_ | (refine AW.condT ?_ ?_ ?_; (focus (simp [hF]; done)); (focus (simp [hF]; done))) | (refine AW.condF ?_ ?_ ?_; (focus (simp [hF]; done)); (focus (simp [hF]; done))) | (refine AW.skip ?_; show AW _ _ _ _ _)) | refine wD1 ?_ | refine wD2 ?_ | refine wE1 ?_ | refine wE2 ?_ | (refine wE3 ?_; intro _) | (refine wE4 ?_; intro _) | refine wN ?_ | ((with_reducible show evIs _ (_ :: _) _ _); first | refine wQ ?_ | refine wF ?_ | refine wG ?_ | refine wT ?_ | refine wM ?_ | refine wS ?_ | refine wP ?_ | refine wJ ?_ | refine wX ?_ | refine wY ?_ | refine wZ ?_ | refine wU ?_) | refine evDone ?_ | ((fail_if_success with_reducible show AW _ _ _ _ _); show AW _ _ _ _ _))
        clear hF
        try (show AW _ _ _ _ _)
        refine ⟨rfl, (), trivial, ?_⟩
        refine Fit.mk _ _ _ (by simp [conv2, newEmp, convs_refl, convs, conv]) (by simp [heapFit, newEmp, conv2s, conv2, convs_refl, convs, conv]) (by intro q hq; first | (simp at hq; done) | (simp at hq; omega) | (simp at hq; simp; omega))
    intro _ _
    rw [mkS_eq]
    refine AW.cutE (fun _ : Unit => mkS [(0, .int .i64 m), (1, .int .i64 n), (2, .str s), (3, .str t), (8, .bool false), (9, .sl .ext [.sl .ext [plV 2 m ⟨#[]⟩, plV 2 n ⟨#[]⟩], .sl .ext [plV 3 0 s, plV 3 0 t]]), (10, .int .i64 1), (11, .ptr 530 0 0), (12, .ptr 531 0 0), (13, .bool sl), (14, .bool se), (15, .bool sg)] [(530, ⟨5, true, [plV 3 0 s]⟩), (531, ⟨5, true, [plV 3 0 t]⟩)] 790) (fun _ => True) ?_ ?_
    · have hF := True.intro
      repeat (first | ((with_reducible show AW _ _ _ _ _); first | refine AW.seq ?_ | refine AW.block ?_ | refine AW.reg ?_ | refine AW.draw ?_ | (refine AW.condT ?_ ?_ ?_; (focus (simp [hF]; done)); (focus (simp [hF]; done))) | (refine AW.condF ?_ ?_ ?_; (focus (simp [hF]; done)); (focus (simp [hF]; done))) | (refine AW.skip ?_; show AW _ _ _ _ _)) | refine wD1 ?_ | refine wD2 ?_ | refine wE1 ?_ | refine wE2 ?_ | (refine wE3 ?_; intro _) | (refine wE4 ?_; intro _) | refine wN ?_ | ((with_reducible show evIs _ (_ :: _) _ _); first | refine wQ ?_ | refine wF ?_ | refine wG ?_ | refine wT ?_ | refine wM ?_ | refine wS ?_ | refine wP ?_ | refine wJ ?_ | refine wX ?_ | refine wY ?_ | refine wZ ?_ | refine wU ?_) | refine evDone ?_ | ((fail_if_success with_reducible show AW _ _ _ _ _); show AW _ _ _ _ _))
      clear hF
      try (show AW _ _ _ _ _)
      have hF := True.intro
      refine wC (hA := slt) ?_
      clear hF
      have hF := True.intro
      repeat (first | ((with_reducible show AW _ _ _ _ _); first | refine AW.seq ?_ | refine AW.block ?_ | refine AW.reg ?_ | refine AW.draw ?_ | (refine AW.condT ?_ ?_ ?_; (focus (simp [hF]; done)); (focus (simp [hF]; done))) | (refine AW.condF ?_ ?_ ?_; (focus (simp [hF]; done)); (focus (simp [hF]; done))) | (refine AW.skip ?_; show AW _ _ _ _ _)) | refine wD1 ?_ | refine wD2 ?_ | refine wE1 ?_ | refine wE2 ?_ | (refine wE3 ?_; intro _) | (refine wE4 ?_; intro _) | refine wN ?_ | ((with_reducible show evIs _ (_ :: _) _ _); first | refine wQ ?_ | refine wF ?_ | refine wG ?_ | refine wT ?_ | refine wM ?_ | refine wS ?_ | refine wP ?_ | refine wJ ?_ | refine wX ?_ | refine wY ?_ | refine wZ ?_ | refine wU ?_) | refine evDone ?_ | ((fail_if_success with_reducible show AW _ _ _ _ _); show AW _ _ _ _ _))
      clear hF
      try (show AW _ _ _ _ _)
      have hF := True.intro
      refine wC (hA := seq) ?_
      clear hF
      have hF := True.intro
      repeat (first | ((with_reducible show AW _ _ _ _ _); first | refine AW.seq ?_ | refine AW.block ?_ | refine AW.reg ?_ | refine AW.draw ?_ | (refine AW.condT ?_ ?_ ?_; (focus (simp [hF]; done)); (focus (simp [hF]; done))) | (refine AW.condF ?_ ?_ ?_; (focus (simp [hF]; done)); (focus (simp [hF]; done))) | (refine AW.skip ?_; show AW _ _ _ _ _)) | refine wD1 ?_ | refine wD2 ?_ | refine wE1 ?_ | refine wE2 ?_ | (refine wE3 ?_; intro _) | (refine wE4 ?_; intro _) | refine wN ?_ | ((with_reducible show evIs _ (_ :: _) _ _); first | refine wQ ?_ | refine wF ?_ | refine wG ?_ | refine wT ?_ | refine wM ?_ | refine wS ?_ | refine wP ?_ | refine wJ ?_ | refine wX ?_ | refine wY ?_ | refine wZ ?_ | refine wU ?_) | refine evDone ?_ | ((fail_if_success with_reducible show AW _ _ _ _ _); show AW _ _ _ _ _))
      clear hF
      try (show AW _ _ _ _ _)
      have hF := True.intro
      refine wC (hA := sgt) ?_
      clear hF
      have hF := True.intro
      repeat (first | ((with_reducible show AW _ _ _ _ _); first | refine AW.seq ?_ | refine AW.block ?_ | refine AW.reg ?_ | refine AW.draw ?_ | (refine AW.condT ?_ ?_ ?_; (focus (simp [hF]; done)); (focus (simp [hF]; done))) | (refine AW.condF ?_ ?_ ?_; (focus (simp [hF]; done)); (focus (simp [hF]; done))) | (refine AW.skip ?_; show AW _ _ _ _ _)) | refine wD1 ?_ | refine wD2 ?_ | refine wE1 ?_ | refine wE2 ?_ | (refine wE3 ?_; intro _) | (refine wE4 ?_; intro _) | refine wN ?_ | ((with_reducible show evIs _ (_ :: _) _ _); first | refine wQ ?_ | refine wF ?_ | refine wG ?_ | refine wT ?_ | refine wM ?_ | refine wS ?_ | refine wP ?_ | refine wJ ?_ | refine wX ?_ | refine wY ?_ | refine wZ ?_ | refine wU ?_) | refine evDone ?_ | ((fail_if_success with_reducible show AW _ _ _ _ _); show AW _ _ _ _ _))
      clear hF
      try (show AW _ _ _ _ _)
      refine ⟨rfl, (), trivial, ?_⟩
      refine Fit.mk _ _ _ (by simp [conv2, newEmp, convs_refl, convs, conv]) (by simp [heapFit, newEmp, conv2s, conv2, convs_refl, convs, conv]) (by intro q hq; first | (simp at hq; done) | (simp at hq; omega) | (simp at hq; simp; omega))
    intro _ _
    rw [mkS_eq]
    rcases hs3 with ⟨rfl, rfl, rfl⟩ | ⟨rfl, rfl, rfl⟩ | ⟨rfl, rfl, rfl⟩
    all_goals
      have hF := True.intro
      repeat (first | ((with_reducible show AW _ _ _ _ _); first | refine AW.seq ?_ | refine AW.block ?_ | refine AW.reg ?_ | refine AW.draw ?_ | (refine AW.condT ?_ ?_ ?_; (focus (simp [hF]; done)); (focus (simp [hF]; done))) | (refine AW.condF ?_ ?_ ?_; (focus (simp [hF]; done)); (focus (simp [hF]; done))) | (refine AW.skip ?_; show AW _ _ _ _ _)) | refine wD1 ?_ | refine wD2 ?_ | refine wE1 ?_ | refine wE2 ?_ | (refine wE3 ?_; intro _) | (refine wE4 ?_; intro _) | refine wN ?_ | ((with_reducible show evIs _ (_ :: _) _ _); first | refine wQ ?_ | refine wF ?_ | refine wG ?_ | refine wT ?_ | refine wM ?_ | refine wS ?_ | refine wP ?_ | refine wJ ?_ | refine wX ?_ | refine wY ?_ | refine wZ ?_ | refine wU ?_) | refine evDone ?_ | ((fail_if_success with_reducible show AW _ _ _ _ _); show AW _ _ _ _ _))
      clear hF
      try (show AW _ _ _ _ _)
      have hF := True.intro
      refine wC (hA := sle) ?_
      clear hF
      have hF := True.intro
      repeat (first | ((with_reducible show AW _ _ _ _ _); first | refine AW.seq ?_ | refine AW.block ?_ | refine AW.reg ?_ | refine AW.draw ?_ | (refine AW.condT ?_ ?_ ?_; (focus (simp [hF]; done)); (focus (simp [hF]; done))) | (refine AW.condF ?_ ?_ ?_; (focus (simp [hF]; done)); (focus (simp [hF]; done))) | (refine AW.skip ?_; show AW _ _ _ _ _)) | refine wD1 ?_ | refine wD2 ?_ | refine wE1 ?_ | refine wE2 ?_ | (refine wE3 ?_; intro _) | (refine wE4 ?_; intro _) | refine wN ?_ | ((with_reducible show evIs _ (_ :: _) _ _); first | refine wQ ?_ | refine wF ?_ | refine wG ?_ | refine wT ?_ | refine wM ?_ | refine wS ?_ | refine wP ?_ | refine wJ ?_ | refine wX ?_ | refine wY ?_ | refine wZ ?_ | refine wU ?_) | refine evDone ?_ | ((fail_if_success with_reducible show AW _ _ _ _ _); show AW _ _ _ _ _))
      clear hF
      try (show AW _ _ _ _ _)
      have hF := True.intro
      refine wC (hA := sge) ?_
      clear hF
      have hF := True.intro
      repeat (first | ((with_reducible show AW _ _ _ _ _); first | refine AW.seq ?_ | refine AW.block ?_ | refine AW.reg ?_ | refine AW.draw ?_ | (refine AW.condT ?_ ?_ ?_; (focus (simp [hF]; done)); (focus (simp [hF]; done))) | (refine AW.condF ?_ ?_ ?_; (focus (simp [hF]; done)); (focus (simp [hF]; done))) | (refine AW.skip ?_; show AW _ _ _ _ _)) | refine wD1 ?_ | refine wD2 ?_ | refine wE1 ?_ | refine wE2 ?_ | (refine wE3 ?_; intro _) | (refine wE4 ?_; intro _) | refine wN ?_ | ((with_reducible show evIs _ (_ :: _) _ _); first | refine wQ ?_ | refine wF ?_ | refine wG ?_ | refine wT ?_ | refine wM ?_ | refine wS ?_ | refine wP ?_ | refine wJ ?_ | refine wX ?_ | refine wY ?_ | refine wZ ?_ | refine wU ?_) | refine evDone ?_ | ((fail_if_success with_reducible show AW _ _ _ _ _); show AW _ _ _ _ _))
      clear hF
      try (show AW _ _ _ _ _)
      have hF := True.intro
      refine wC (hA := sne) ?_
      clear hF
      have hF := True.intro
      repeat (first | ((with_reducible show AW _ _ _ _ _); first | refine AW.seq ?_ | refine AW.block ?_ | refine AW.reg ?_ | refine AW.draw ?_ | (refine AW.condT ?_ ?_ ?_; (focus (simp [hF]; done)); (focus (simp [hF]; done))) | (refine AW.condF ?_ ?_ ?_; (focus (simp [hF]; done)); (focus (simp [hF]; done))) | (refine AW.skip ?_; show AW _ _ _ _ _)) | refine wD1 ?_ | refine wD2 ?_ | refine wE1 ?_ | refine wE2 ?_ | (refine wE3 ?_; intro _) | (refine wE4 ?_; intro _) | refine wN ?_ | ((with_reducible show evIs _ (_ :: _) _ _); first | refine wQ ?_ | refine wF ?_ | refine wG ?_ | refine wT ?_ | refine wM ?_ | refine wS ?_ | refine wP ?_ | refine wJ ?_ | refine wX ?_ | refine wY ?_ | refine wZ ?_ | refine wU ?_) | refine evDone ?_ | ((fail_if_success with_reducible show AW _ _ _ _ _); show AW _ _ _ _ _))
      clear hF
      try (show AW _ _ _ _ _)
      have hF := True.intro
      refine wC (hA := stl) ?_
      clear hF
      have hF := hw
      repeat (first | ((with_reducible show AW _ _ _ _ _); first | refine AW.seq ?_ | refine AW.block ?_ | refine AW.reg ?_ | refine AW.draw ?_ | (refine AW.condT ?_ ?_ ?_; (focus (simp [hF]; done)); (focus (simp [hF]; done))) | (refine AW.condF ?_ ?_ ?_; (focus (simp [hF]; done)); (focus (simp [hF]; done))) | (refine AW.skip ?_; show AW _ _ _ _ _)) | refine wD1 ?_ | refine wD2 ?_ | refine wE1 ?_ | refine wE2 ?_ | (refine wE3 ?_; intro _) | (refine wE4 ?_; intro _) | refine wN ?_ | ((with_reducible show evIs _ (_ :: _) _ _); first | refine wQ ?_ | refine wF ?_ | refine wG ?_ | refine wT ?_ | refine wM ?_ | refine wS ?_ | refine wP ?_ | refine wJ ?_ | refine wX ?_ | refine wY ?_ | refine wZ ?_ | refine wU ?_) | refine evDone ?_ | ((fail_if_success with_reducible show AW _ _ _ _ _); show AW _ _ _ _ _))
      clear hF
      try (show AW _ _ _ _ _)
      refine ⟨2, by omega, by omega, ?_⟩
      refine Fit.mk _ _ _ (by simp [hw, conv2, newEmp, convs_refl, convs, conv]) (by simp [hw, heapFit, newEmp, conv2s, conv2, convs_refl, convs, conv]) (by intro q hq; first | (simp at hq; done) | (simp at hq; omega) | (simp at hq; simp; omega))
  · have hF := True.intro
    repeat (first | ((with_reducible show AW _ _ _ _ _); first | refine AW.seq ?_ | refine AW.block ?_ | refine AW.reg ?_ | refine AW.draw ?_ | (refine AW.condT ?_ ?_ ?_; (focus (simp [hF]; done)); (focus (simp [hF]; done))) | (refine AW.condF ?_ ?_ ?_; (focus (simp [hF]; done)); (focus (simp [hF]; done))) | (refine AW.skip ?_; show AW _ _ _ _ _)) | refine wD1 ?_ | refine wD2 ?_ | refine wE1 ?_ | refine wE2 ?_ | (refine wE3 ?_; intro _) | (refine wE4 ?_; intro _) | refine wN ?_ | ((with_reducible show evIs _ (_ :: _) _ _); first | refine wQ ?_ | refine wF ?_ | refine wG ?_ | refine wT ?_ | refine wM ?_ | refine wS ?_ | refine wP ?_ | refine wJ ?_ | refine wX ?_ | refine wY ?_ | refine wZ ?_ | refine wU ?_) | refine evDone ?_ | ((fail_if_success with_reducible show AW _ _ _ _ _); show AW _ _ _ _ _))
    clear hF
    try (show AW _ _ _ _ _)
    refine AW.exit ?_
    show AW _ _ _ _ _
    have hF := True.intro
    repeat (first | ((with_reducible show AW _ _ _ _ _); first | refine AW.seq ?_ | refine AW.block ?_ | refine AW.reg ?_ | refine AW.draw ?_ | (refine AW.condT ?_ ?_ ?_; (focus (simp [hF]; done)); (focus (simp [hF]; done))) | (refine AW.condF ?_ ?_ ?_; (focus (simp [hF]; done)); (focus (simp [hF]; done))) | (refine AW.skip ?_; show AW _ _ _ _ _)) | refine wD1 ?_ | refine wD2 ?_ | refine wE1 ?_ | refine wE2 ?_ | (refine wE3 ?_; intro _) | (refine wE4 ?_; intro _) | refine wN ?_ | ((with_reducible show evIs _ (_ :: _) _ _); first | refine wQ ?_ | refine wF ?_ | refine wG ?_ | refine wT ?_ | refine wM ?_ | refine wS ?_ | refine wP ?_ | refine wJ ?_ | refine wX ?_ | refine wY ?_ | refine wZ ?_ | refine wU ?_) | refine evDone ?_ | ((fail_if_success with_reducible show AW _ _ _ _ _); show AW _ _ _ _ _))
    clear hF
    try (show AW _ _ _ _ _)
    have hF := True.intro
    refine wC (hA := h8) ?_
    clear hF
    have hF := True.intro
    repeat (first | ((with_reducible show AW _ _ _ _ _); first | refine AW.seq ?_ | refine AW.block ?_ | refine AW.reg ?_ | refine AW.draw ?_ | (refine AW.condT ?_ ?_ ?_; (focus (simp [hF]; done)); (focus (simp [hF]; done))) | (refine AW.condF ?_ ?_ ?_; (focus (simp [hF]; done)); (focus (simp [hF]; done))) | (refine AW.skip ?_; show AW _ _ _ _ _)) | refine wD1 ?_ | refine wD2 ?_ | refine wE1 ?_ | refine wE2 ?_ | (refine wE3 ?_; intro _) | (refine wE4 ?_; intro _) | refine wN ?_ | ((with_reducible show evIs _ (_ :: _) _ _); first | refine wQ ?_ | refine wF ?_ | refine wG ?_ | refine wT ?_ | refine wM ?_ | refine wS ?_ | refine wP ?_ | refine wJ ?_ | refine wX ?_ | refine wY ?_ | refine wZ ?_ | refine wU ?_) | refine evDone ?_ | ((fail_if_success with_reducible show AW _ _ _ _ _); show AW _ _ _ _ _))
    clear hF
    try (show AW _ _ _ _ _)
    refine AW.ret (retI rfl ?_)
    simp [a5_res, resOk, resP, resV, ARes.op, R2s, R2, R1s, R1, closeOk, closeV]
end Go.Proofs.YtcccedmhlennmaaDoor
