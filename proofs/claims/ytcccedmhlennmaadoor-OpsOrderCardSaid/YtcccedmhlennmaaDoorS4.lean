/- Contracts of chapter 12's functions, ninth part: the reference looks into an exception. -/
import Derived.Test.YtcccedmhlennmaaDoorS3

set_option linter.unusedSimpArgs false
set_option linter.unusedVariables false
set_option maxHeartbeats 4000000
namespace Go.Proofs.YtcccedmhlennmaaDoor
open Go Go.Amb Go.IntWalk Go.Ops

theorem f50n : ACall Tryd.prog 50 [nullV] (· = .bool true) := by
  refine a50_of (by simp) ?_
  have hF := True.intro
  repeat (first | ((with_reducible show AW _ _ _ _ _); first | refine AW.seq ?_ | refine AW.block ?_ | refine AW.reg ?_ | refine AW.draw ?_ | (refine AW.condT ?_ ?_ ?_; (focus (simp [hF]; done)); (focus (simp [hF]; done))) | (refine AW.condF ?_ ?_ ?_; (focus (simp [hF]; done)); (focus (simp [hF]; done))) | (refine AW.skip ?_; show AW _ _ _ _ _)) | refine wD1 ?_ | refine wD2 ?_ | refine wE1 ?_ | refine wE2 ?_ | (refine wE3 ?_; intro _) | (refine wE4 ?_; intro _) | refine wN ?_ | ((with_reducible show evIs _ (_ :: _) _ _); first | refine wQ ?_ | refine wF ?_ | refine wG ?_ | refine wT ?_ | refine wM ?_ | refine wS ?_ | refine wP ?_ | refine wJ ?_ | refine wX ?_ | refine wY ?_ | refine wZ ?_ | refine wU ?_) | refine evDone ?_ | ((fail_if_success with_reducible show AW _ _ _ _ _); show AW _ _ _ _ _))
  clear hF
  try (show AW _ _ _ _ _)
  refine AW.loop (fun _ : Unit => True) (fun _ => mkS [(0, nullV), (1, .ptr 0 0 0), (2, .bool false), (3, .int .i64 0)] [(0, ⟨5, true, [nullV]⟩)] 50) (fun _ => 0) () trivial ?_ ?_
  · refine Fit.mk _ _ _ (by simp [conv2, newEmp, convs_refl, convs, conv]) (by simp [heapFit, newEmp, conv2s, conv2, convs_refl, convs, conv]) (by intro q hq; first | (simp at hq; done) | (simp at hq; omega) | (simp at hq; simp; omega))
  intro _ _
  have hF := True.intro
  repeat (first | ((with_reducible show AW _ _ _ _ _); first | refine AW.seq ?_ | refine AW.block ?_ | refine AW.reg ?_ | refine AW.draw ?_ | (refine AW.condT ?_ ?_ ?_; (focus (simp [hF]; done)); (focus (simp [hF]; done))) | (refine AW.condF ?_ ?_ ?_; (focus (simp [hF]; done)); (focus (simp [hF]; done))) | (refine AW.skip ?_; show AW _ _ _ _ _)) | refine wD1 ?_ | refine wD2 ?_ | refine wE1 ?_ | refine wE2 ?_ | (refine wE3 ?_; intro _) | (refine wE4 ?_; intro _) | refine wN ?_ | ((with_reducible show evIs _ (_ :: _) _ _); first | refine wQ ?_ | refine wF ?_ | refine wG ?_ | refine wT ?_ | refine wM ?_ | refine wS ?_ | refine wP ?_ | refine wJ ?_ | refine wX ?_ | refine wY ?_ | refine wZ ?_ | refine wU ?_) | refine evDone ?_ | ((fail_if_success with_reducible show AW _ _ _ _ _); show AW _ _ _ _ _))
  clear hF
  try (show AW _ _ _ _ _)
  refine AW.exit ?_
  show AW _ _ _ _ _
  have hF := True.intro
  repeat (first | ((with_reducible show AW _ _ _ _ _); first | refine AW.seq ?_ | refine AW.block ?_ | refine AW.reg ?_ | refine AW.draw ?_ | (refine AW.condT ?_ ?_ ?_; (focus (simp [hF]; done)); (focus (simp [hF]; done))) | (refine AW.condF ?_ ?_ ?_; (focus (simp [hF]; done)); (focus (simp [hF]; done))) | (refine AW.skip ?_; show AW _ _ _ _ _)) | refine wD1 ?_ | refine wD2 ?_ | refine wE1 ?_ | refine wE2 ?_ | (refine wE3 ?_; intro _) | (refine wE4 ?_; intro _) | refine wN ?_ | ((with_reducible show evIs _ (_ :: _) _ _); first | refine wQ ?_ | refine wF ?_ | refine wG ?_ | refine wT ?_ | refine wM ?_ | refine wS ?_ | refine wP ?_ | refine wJ ?_ | refine wX ?_ | refine wY ?_ | refine wZ ?_ | refine wU ?_) | refine evDone ?_ | ((fail_if_success with_reducible show AW _ _ _ _ _); show AW _ _ _ _ _))
  clear hF
  try (show AW _ _ _ _ _)
  refine AW.ret (retI rfl ?_)
  simp [a50_res, resOk, resP, resV, ARes.op, R2s, R2, R1s, R1, closeOk, closeV]
theorem f50t (k : ByteArray) : ACall Tryd.prog 50 [textV k] (· = .bool true) := by
  refine a50_of (by simp) ?_
  have hF := True.intro
  repeat (first | ((with_reducible show AW _ _ _ _ _); first | refine AW.seq ?_ | refine AW.block ?_ | refine AW.reg ?_ | refine AW.draw ?_ | (refine AW.condT ?_ ?_ ?_; (focus (simp [hF]; done)); (focus (simp [hF]; done))) | (refine AW.condF ?_ ?_ ?_; (focus (simp [hF]; done)); (focus (simp [hF]; done))) | (refine AW.skip ?_; show AW _ _ _ _ _)) | refine wD1 ?_ | refine wD2 ?_ | refine wE1 ?_ | refine wE2 ?_ | (refine wE3 ?_; intro _) | (refine wE4 ?_; intro _) | refine wN ?_ | ((with_reducible show evIs _ (_ :: _) _ _); first | refine wQ ?_ | refine wF ?_ | refine wG ?_ | refine wT ?_ | refine wM ?_ | refine wS ?_ | refine wP ?_ | refine wJ ?_ | refine wX ?_ | refine wY ?_ | refine wZ ?_ | refine wU ?_) | refine evDone ?_ | ((fail_if_success with_reducible show AW _ _ _ _ _); show AW _ _ _ _ _))
  clear hF
  try (show AW _ _ _ _ _)
  refine AW.loop (fun _ : Unit => True) (fun _ => mkS [(0, textV k), (1, .ptr 0 0 0), (2, .bool false), (3, .int .i64 0)] [(0, ⟨5, true, [textV k]⟩)] 50) (fun _ => 0) () trivial ?_ ?_
  · refine Fit.mk _ _ _ (by simp [conv2, newEmp, convs_refl, convs, conv]) (by simp [heapFit, newEmp, conv2s, conv2, convs_refl, convs, conv]) (by intro q hq; first | (simp at hq; done) | (simp at hq; omega) | (simp at hq; simp; omega))
  intro _ _
  have hF := True.intro
  repeat (first | ((with_reducible show AW _ _ _ _ _); first | refine AW.seq ?_ | refine AW.block ?_ | refine AW.reg ?_ | refine AW.draw ?_ | (refine AW.condT ?_ ?_ ?_; (focus (simp [hF]; done)); (focus (simp [hF]; done))) | (refine AW.condF ?_ ?_ ?_; (focus (simp [hF]; done)); (focus (simp [hF]; done))) | (refine AW.skip ?_; show AW _ _ _ _ _)) | refine wD1 ?_ | refine wD2 ?_ | refine wE1 ?_ | refine wE2 ?_ | (refine wE3 ?_; intro _) | (refine wE4 ?_; intro _) | refine wN ?_ | ((with_reducible show evIs _ (_ :: _) _ _); first | refine wQ ?_ | refine wF ?_ | refine wG ?_ | refine wT ?_ | refine wM ?_ | refine wS ?_ | refine wP ?_ | refine wJ ?_ | refine wX ?_ | refine wY ?_ | refine wZ ?_ | refine wU ?_) | refine evDone ?_ | ((fail_if_success with_reducible show AW _ _ _ _ _); show AW _ _ _ _ _))
  clear hF
  try (show AW _ _ _ _ _)
  refine AW.exit ?_
  show AW _ _ _ _ _
  have hF := True.intro
  repeat (first | ((with_reducible show AW _ _ _ _ _); first | refine AW.seq ?_ | refine AW.block ?_ | refine AW.reg ?_ | refine AW.draw ?_ | (refine AW.condT ?_ ?_ ?_; (focus (simp [hF]; done)); (focus (simp [hF]; done))) | (refine AW.condF ?_ ?_ ?_; (focus (simp [hF]; done)); (focus (simp [hF]; done))) | (refine AW.skip ?_; show AW _ _ _ _ _)) | refine wD1 ?_ | refine wD2 ?_ | refine wE1 ?_ | refine wE2 ?_ | (refine wE3 ?_; intro _) | (refine wE4 ?_; intro _) | refine wN ?_ | ((with_reducible show evIs _ (_ :: _) _ _); first | refine wQ ?_ | refine wF ?_ | refine wG ?_ | refine wT ?_ | refine wM ?_ | refine wS ?_ | refine wP ?_ | refine wJ ?_ | refine wX ?_ | refine wY ?_ | refine wZ ?_ | refine wU ?_) | refine evDone ?_ | ((fail_if_success with_reducible show AW _ _ _ _ _); show AW _ _ _ _ _))
  clear hF
  try (show AW _ _ _ _ _)
  refine AW.ret (retI rfl ?_)
  simp [a50_res, resOk, resP, resV, ARes.op, R2s, R2, R1s, R1, closeOk, closeV]
theorem f76 : ACall Tryd.prog 76 [.sl .fro [.str ⟨#[100, 97, 116, 97]⟩, .str ⟨#[116, 121, 112, 101]⟩]] (· = .bool true) := by
  have hw : IntKind.i64.wrap 1 = 1 ∧ IntKind.i64.wrap 0 = 0 ∧ IntKind.i64.wrap 2 = 2 := by decide
  have hb : Op.bytesLess [100, 97, 116, 97] [116, 121, 112, 101] = true := by decide
  refine a76_of (by simp) ?_
  have hF := hw
  repeat (first | ((with_reducible show AW _ _ _ _ _); first | refine AW.seq ?_ | refine AW.block ?_ | refine AW.reg ?_ | refine AW.draw ?_ | (refine AW.condT ?_ ?_ ?_; (focus (simp [hF]; done)); (focus (simp [hF]; done))) | (refine AW.condF ?_ ?_ ?_; (focus (simp [hF]; done)); (focus (simp [hF]; done))) | (refine AW.skip ?_; show AW _ _ _ _ _)) | refine wD1 ?_ | refine wD2 ?_ | refine wE1 ?_ | refine wE2 ?_ | (refine wE3 ?_; intro _) | (refine wE4 ?_; intro _) | refine wN ?_ | ((with_reducible show evIs _ (_ :: _) _ _); first | refine wQ ?_ | refine wF ?_ | refine wG ?_ | refine wT ?_ | refine wM ?_ | refine wS ?_ | refine wP ?_ | refine wJ ?_ | refine wX ?_ | refine wY ?_ | refine wZ ?_ | refine wU ?_) | refine evDone ?_ | ((fail_if_success with_reducible show AW _ _ _ _ _); show AW _ _ _ _ _))
  clear hF
  try (show AW _ _ _ _ _)
  refine AW.loop (fun g : Nat => 1 ≤ g ∧ g ≤ 2) (fun g => mkS [(0, .sl .fro [.str ⟨#[100, 97, 116, 97]⟩, .str ⟨#[116, 121, 112, 101]⟩]), (2, .bool false), (3, .int .i64 g)] [] 50) (fun g => 2 - g) 1 (by omega) ?_ ?_
  · refine Fit.mk _ _ _ (by simp [conv2, newEmp, convs_refl, convs, conv]) (by simp [heapFit, newEmp, conv2s, conv2, convs_refl, convs, conv]) (by intro q hq; first | (simp at hq; done) | (simp at hq; omega) | (simp at hq; simp; omega))
  intro g hg
  rcases (show g = 1 ∨ g = 2 by omega) with rfl | rfl
  · have hF := And.intro (hw) (And.intro (hb) (elemAt.eq_1))
    repeat (first | ((with_reducible show AW _ _ _ _ _); first | refine AW.seq ?_ | refine AW.block ?_ | refine AW.reg ?_ | refine AW.draw ?_ | (refine AW.condT ?_ ?_ ?_; (focus (simp [hF]; done)); (focus (simp [hF]; done))) | (refine AW.condF ?_ ?_ ?_; (focus (simp [hF]; done)); (focus (simp [hF]; done))) | (refine AW.skip ?_; show AW _ _ _ _ _)) | refine wD1 ?_ | refine wD2 ?_ | refine wE1 ?_ | refine wE2 ?_ | (refine wE3 ?_; intro _) | (refine wE4 ?_; intro _) | refine wN ?_ | ((with_reducible show evIs _ (_ :: _) _ _); first | refine wQ ?_ | refine wF ?_ | refine wG ?_ | refine wT ?_ | refine wM ?_ | refine wS ?_ | refine wP ?_ | refine wJ ?_ | refine wX ?_ | refine wY ?_ | refine wZ ?_ | refine wU ?_) | refine evDone ?_ | ((fail_if_success with_reducible show AW _ _ _ _ _); show AW _ _ _ _ _))
    clear hF
    try (show AW _ _ _ _ _)
    refine ⟨2, by omega, by omega, ?_⟩
    refine Fit.mk _ _ _ (by simp [hw, conv2, newEmp, convs_refl, convs, conv]) (by simp [hw, heapFit, newEmp, conv2s, conv2, convs_refl, convs, conv]) (by intro q hq; first | (simp at hq; done) | (simp at hq; omega) | (simp at hq; simp; omega))
  · have hF := hw
    repeat (first | ((with_reducible show AW _ _ _ _ _); first | refine AW.seq ?_ | refine AW.block ?_ | refine AW.reg ?_ | refine AW.draw ?_ | (refine AW.condT ?_ ?_ ?_; (focus (simp [hF]; done)); (focus (simp [hF]; done))) | (refine AW.condF ?_ ?_ ?_; (focus (simp [hF]; done)); (focus (simp [hF]; done))) | (refine AW.skip ?_; show AW _ _ _ _ _)) | refine wD1 ?_ | refine wD2 ?_ | refine wE1 ?_ | refine wE2 ?_ | (refine wE3 ?_; intro _) | (refine wE4 ?_; intro _) | refine wN ?_ | ((with_reducible show evIs _ (_ :: _) _ _); first | refine wQ ?_ | refine wF ?_ | refine wG ?_ | refine wT ?_ | refine wM ?_ | refine wS ?_ | refine wP ?_ | refine wJ ?_ | refine wX ?_ | refine wY ?_ | refine wZ ?_ | refine wU ?_) | refine evDone ?_ | ((fail_if_success with_reducible show AW _ _ _ _ _); show AW _ _ _ _ _))
    clear hF
    try (show AW _ _ _ _ _)
    refine AW.exit ?_
    show AW _ _ _ _ _
    have hF := True.intro
    repeat (first | ((with_reducible show AW _ _ _ _ _); first | refine AW.seq ?_ | refine AW.block ?_ | refine AW.reg ?_ | refine AW.draw ?_ | (refine AW.condT ?_ ?_ ?_; (focus (simp [hF]; done)); (focus (simp [hF]; done))) | (refine AW.condF ?_ ?_ ?_; (focus (simp [hF]; done)); (focus (simp [hF]; done))) | (refine AW.skip ?_; show AW _ _ _ _ _)) | refine wD1 ?_ | refine wD2 ?_ | refine wE1 ?_ | refine wE2 ?_ | (refine wE3 ?_; intro _) | (refine wE4 ?_; intro _) | refine wN ?_ | ((with_reducible show evIs _ (_ :: _) _ _); first | refine wQ ?_ | refine wF ?_ | refine wG ?_ | refine wT ?_ | refine wM ?_ | refine wS ?_ | refine wP ?_ | refine wJ ?_ | refine wX ?_ | refine wY ?_ | refine wZ ?_ | refine wU ?_) | refine evDone ?_ | ((fail_if_success with_reducible show AW _ _ _ _ _); show AW _ _ _ _ _))
    clear hF
    try (show AW _ _ _ _ _)
    refine AW.ret (retI rfl ?_)
    simp [a76_res, resOk, resP, resV, ARes.op, R2s, R2, R1s, R1, closeOk, closeV]
theorem f50m (k : ByteArray) : ACall Tryd.prog 50 [failV k] (· = .bool true) := by
  have hn := f50n
  have ht := f50t k
  have h76 := f76
  have hw : IntKind.i64.wrap 1 = 1 ∧ IntKind.i64.wrap 0 = 0 ∧ IntKind.i64.wrap 2 = 2 := by decide
  refine a50_of (by simp) ?_
  have hF := hw
  repeat (first | ((with_reducible show AW _ _ _ _ _); first | refine AW.seq ?_ | refine AW.block ?_ | refine AW.reg ?_ | refine AW.draw ?_ | (refine AW.condT ?_ ?_ ?_; (focus (simp [hF]; done)); (focus (simp [hF]; done))) | (refine AW.condF ?_ ?_ ?_; (focus (simp [hF]; done)); (focus (simp [hF]; done))) | (refine AW.skip ?_; show AW _ _ _ _ _)) | refine wD1 ?_ | refine wD2 ?_ | refine wE1 ?_ | refine wE2 ?_ | (refine wE3 ?_; intro _) | (refine wE4 ?_; intro _) | refine wN ?_ | ((with_reducible show evIs _ (_ :: _) _ _); first | refine wQ ?_ | refine wF ?_ | refine wG ?_ | refine wT ?_ | refine wM ?_ | refine wS ?_ | refine wP ?_ | refine wJ ?_ | refine wX ?_ | refine wY ?_ | refine wZ ?_ | refine wU ?_) | refine evDone ?_ | ((fail_if_success with_reducible show AW _ _ _ _ _); show AW _ _ _ _ _))
  clear hF
  try (show AW _ _ _ _ _)
  refine AW.loop (fun g : Nat => g ≤ 2) (fun g => mkS [(0, failV k), (1, .ptr 0 0 0), (2, .bool false), (3, .int .i64 g)] [(0, ⟨5, true, [failV k]⟩)] 50) (fun g => 2 - g) 0 (by omega) ?_ ?_
  · refine Fit.mk _ _ _ (by simp [conv2, newEmp, convs_refl, convs, conv]) (by simp [heapFit, newEmp, conv2s, conv2, convs_refl, convs, conv]) (by intro q hq; first | (simp at hq; done) | (simp at hq; omega) | (simp at hq; simp; omega))
  intro g hg
  rcases (show g = 0 ∨ g = 1 ∨ g = 2 by omega) with rfl | rfl | rfl
  · have hF := And.intro (hw) (elemAt.eq_1)
    repeat (first | ((with_reducible show AW _ _ _ _ _); first | refine AW.seq ?_ | refine AW.block ?_ | refine AW.reg ?_ | refine AW.draw ?_ | (refine AW.condT ?_ ?_ ?_; (focus (simp [hF]; done)); (focus (simp [hF]; done))) | (refine AW.condF ?_ ?_ ?_; (focus (simp [hF]; done)); (focus (simp [hF]; done))) | (refine AW.skip ?_; show AW _ _ _ _ _)) | refine wD1 ?_ | refine wD2 ?_ | refine wE1 ?_ | refine wE2 ?_ | (refine wE3 ?_; intro _) | (refine wE4 ?_; intro _) | refine wN ?_ | ((with_reducible show evIs _ (_ :: _) _ _); first | refine wQ ?_ | refine wF ?_ | refine wG ?_ | refine wT ?_ | refine wM ?_ | refine wS ?_ | refine wP ?_ | refine wJ ?_ | refine wX ?_ | refine wY ?_ | refine wZ ?_ | refine wU ?_) | refine evDone ?_ | ((fail_if_success with_reducible show AW _ _ _ _ _); show AW _ _ _ _ _))
    clear hF
    try (show AW _ _ _ _ _)
    have hF := True.intro
    refine wC (hA := hn) ?_
    clear hF
    have hF := hw
    repeat (first | ((with_reducible show AW _ _ _ _ _); first | refine AW.seq ?_ | refine AW.block ?_ | refine AW.reg ?_ | refine AW.draw ?_ | (refine AW.condT ?_ ?_ ?_; (focus (simp [hF]; done)); (focus (simp [hF]; done))) | (refine AW.condF ?_ ?_ ?_; (focus (simp [hF]; done)); (focus (simp [hF]; done))) | (refine AW.skip ?_; show AW _ _ _ _ _)) | refine wD1 ?_ | refine wD2 ?_ | refine wE1 ?_ | refine wE2 ?_ | (refine wE3 ?_; intro _) | (refine wE4 ?_; intro _) | refine wN ?_ | ((with_reducible show evIs _ (_ :: _) _ _); first | refine wQ ?_ | refine wF ?_ | refine wG ?_ | refine wT ?_ | refine wM ?_ | refine wS ?_ | refine wP ?_ | refine wJ ?_ | refine wX ?_ | refine wY ?_ | refine wZ ?_ | refine wU ?_) | refine evDone ?_ | ((fail_if_success with_reducible show AW _ _ _ _ _); show AW _ _ _ _ _))
    clear hF
    try (show AW _ _ _ _ _)
    refine ⟨1, by omega, by omega, ?_⟩
    refine Fit.mk _ _ _ (by simp [hw, conv2, newEmp, convs_refl, convs, conv]) (by simp [hw, heapFit, newEmp, conv2s, conv2, convs_refl, convs, conv]) (by intro q hq; first | (simp at hq; done) | (simp at hq; omega) | (simp at hq; simp; omega))
  · have hF := And.intro (hw) (elemAt.eq_1)
    repeat (first | ((with_reducible show AW _ _ _ _ _); first | refine AW.seq ?_ | refine AW.block ?_ | refine AW.reg ?_ | refine AW.draw ?_ | (refine AW.condT ?_ ?_ ?_; (focus (simp [hF]; done)); (focus (simp [hF]; done))) | (refine AW.condF ?_ ?_ ?_; (focus (simp [hF]; done)); (focus (simp [hF]; done))) | (refine AW.skip ?_; show AW _ _ _ _ _)) | refine wD1 ?_ | refine wD2 ?_ | refine wE1 ?_ | refine wE2 ?_ | (refine wE3 ?_; intro _) | (refine wE4 ?_; intro _) | refine wN ?_ | ((with_reducible show evIs _ (_ :: _) _ _); first | refine wQ ?_ | refine wF ?_ | refine wG ?_ | refine wT ?_ | refine wM ?_ | refine wS ?_ | refine wP ?_ | refine wJ ?_ | refine wX ?_ | refine wY ?_ | refine wZ ?_ | refine wU ?_) | refine evDone ?_ | ((fail_if_success with_reducible show AW _ _ _ _ _); show AW _ _ _ _ _))
    clear hF
    try (show AW _ _ _ _ _)
    have hF := True.intro
    refine wC (hA := ht) ?_
    clear hF
    have hF := hw
    repeat (first | ((with_reducible show AW _ _ _ _ _); first | refine AW.seq ?_ | refine AW.block ?_ | refine AW.reg ?_ | refine AW.draw ?_ | (refine AW.condT ?_ ?_ ?_; (focus (simp [hF]; done)); (focus (simp [hF]; done))) | (refine AW.condF ?_ ?_ ?_; (focus (simp [hF]; done)); (focus (simp [hF]; done))) | (refine AW.skip ?_; show AW _ _ _ _ _)) | refine wD1 ?_ | refine wD2 ?_ | refine wE1 ?_ | refine wE2 ?_ | (refine wE3 ?_; intro _) | (refine wE4 ?_; intro _) | refine wN ?_ | ((with_reducible show evIs _ (_ :: _) _ _); first | refine wQ ?_ | refine wF ?_ | refine wG ?_ | refine wT ?_ | refine wM ?_ | refine wS ?_ | refine wP ?_ | refine wJ ?_ | refine wX ?_ | refine wY ?_ | refine wZ ?_ | refine wU ?_) | refine evDone ?_ | ((fail_if_success with_reducible show AW _ _ _ _ _); show AW _ _ _ _ _))
    clear hF
    try (show AW _ _ _ _ _)
    refine ⟨2, by omega, by omega, ?_⟩
    refine Fit.mk _ _ _ (by simp [hw, conv2, newEmp, convs_refl, convs, conv]) (by simp [hw, heapFit, newEmp, conv2s, conv2, convs_refl, convs, conv]) (by intro q hq; first | (simp at hq; done) | (simp at hq; omega) | (simp at hq; simp; omega))
  · have hF := hw
    repeat (first | ((with_reducible show AW _ _ _ _ _); first | refine AW.seq ?_ | refine AW.block ?_ | refine AW.reg ?_ | refine AW.draw ?_ | (refine AW.condT ?_ ?_ ?_; (focus (simp [hF]; done)); (focus (simp [hF]; done))) | (refine AW.condF ?_ ?_ ?_; (focus (simp [hF]; done)); (focus (simp [hF]; done))) | (refine AW.skip ?_; show AW _ _ _ _ _)) | refine wD1 ?_ | refine wD2 ?_ | refine wE1 ?_ | refine wE2 ?_ | (refine wE3 ?_; intro _) | (refine wE4 ?_; intro _) | refine wN ?_ | ((with_reducible show evIs _ (_ :: _) _ _); first | refine wQ ?_ | refine wF ?_ | refine wG ?_ | refine wT ?_ | refine wM ?_ | refine wS ?_ | refine wP ?_ | refine wJ ?_ | refine wX ?_ | refine wY ?_ | refine wZ ?_ | refine wU ?_) | refine evDone ?_ | ((fail_if_success with_reducible show AW _ _ _ _ _); show AW _ _ _ _ _))
    clear hF
    try (show AW _ _ _ _ _)
    refine AW.exit ?_
    show AW _ _ _ _ _
    have hF := True.intro
    repeat (first | ((with_reducible show AW _ _ _ _ _); first | refine AW.seq ?_ | refine AW.block ?_ | refine AW.reg ?_ | refine AW.draw ?_ | (refine AW.condT ?_ ?_ ?_; (focus (simp [hF]; done)); (focus (simp [hF]; done))) | (refine AW.condF ?_ ?_ ?_; (focus (simp [hF]; done)); (focus (simp [hF]; done))) | (refine AW.skip ?_; show AW _ _ _ _ _)) | refine wD1 ?_ | refine wD2 ?_ | refine wE1 ?_ | refine wE2 ?_ | (refine wE3 ?_; intro _) | (refine wE4 ?_; intro _) | refine wN ?_ | ((with_reducible show evIs _ (_ :: _) _ _); first | refine wQ ?_ | refine wF ?_ | refine wG ?_ | refine wT ?_ | refine wM ?_ | refine wS ?_ | refine wP ?_ | refine wJ ?_ | refine wX ?_ | refine wY ?_ | refine wZ ?_ | refine wU ?_) | refine evDone ?_ | ((fail_if_success with_reducible show AW _ _ _ _ _); show AW _ _ _ _ _))
    clear hF
    try (show AW _ _ _ _ _)
    have hF := True.intro
    refine wC (hA := h76) ?_
    clear hF
    have hF := True.intro
    repeat (first | ((with_reducible show AW _ _ _ _ _); first | refine AW.seq ?_ | refine AW.block ?_ | refine AW.reg ?_ | refine AW.draw ?_ | (refine AW.condT ?_ ?_ ?_; (focus (simp [hF]; done)); (focus (simp [hF]; done))) | (refine AW.condF ?_ ?_ ?_; (focus (simp [hF]; done)); (focus (simp [hF]; done))) | (refine AW.skip ?_; show AW _ _ _ _ _)) | refine wD1 ?_ | refine wD2 ?_ | refine wE1 ?_ | refine wE2 ?_ | (refine wE3 ?_; intro _) | (refine wE4 ?_; intro _) | refine wN ?_ | ((with_reducible show evIs _ (_ :: _) _ _); first | refine wQ ?_ | refine wF ?_ | refine wG ?_ | refine wT ?_ | refine wM ?_ | refine wS ?_ | refine wP ?_ | refine wJ ?_ | refine wX ?_ | refine wY ?_ | refine wZ ?_ | refine wU ?_) | refine evDone ?_ | ((fail_if_success with_reducible show AW _ _ _ _ _); show AW _ _ _ _ _))
    clear hF
    try (show AW _ _ _ _ _)
    refine AW.ret (retI rfl ?_)
    simp [a50_res, resOk, resP, resV, ARes.op, R2s, R2, R1s, R1, closeOk, closeV]
theorem f51 (k : ByteArray) : ACall Tryd.prog 51 [failV k, .str ⟨#[116, 121, 112, 101]⟩] (· = .tup [textV k, .bool true]) := by
  have hw : IntKind.i64.wrap 1 = 1 ∧ IntKind.i64.wrap 0 = 0 ∧ IntKind.i64.wrap 2 = 2 := by decide
  refine a51_of (by simp) ?_
  have hF := hw
  repeat (first | ((with_reducible show AW _ _ _ _ _); first | refine AW.seq ?_ | refine AW.block ?_ | refine AW.reg ?_ | refine AW.draw ?_ | (refine AW.condT ?_ ?_ ?_; (focus (simp [hF]; done)); (focus (simp [hF]; done))) | (refine AW.condF ?_ ?_ ?_; (focus (simp [hF]; done)); (focus (simp [hF]; done))) | (refine AW.skip ?_; show AW _ _ _ _ _)) | refine wD1 ?_ | refine wD2 ?_ | refine wE1 ?_ | refine wE2 ?_ | (refine wE3 ?_; intro _) | (refine wE4 ?_; intro _) | refine wN ?_ | ((with_reducible show evIs _ (_ :: _) _ _); first | refine wQ ?_ | refine wF ?_ | refine wG ?_ | refine wT ?_ | refine wM ?_ | refine wS ?_ | refine wP ?_ | refine wJ ?_ | refine wX ?_ | refine wY ?_ | refine wZ ?_ | refine wU ?_) | refine evDone ?_ | ((fail_if_success with_reducible show AW _ _ _ _ _); show AW _ _ _ _ _))
  clear hF
  try (show AW _ _ _ _ _)
  refine AW.loop (fun g : Nat => g ≤ 1) (fun g => mkS [(0, failV k), (1, .str ⟨#[116, 121, 112, 101]⟩), (2, .ptr 0 0 0), (4, .ptr 1 0 0), (5, .bool false), (6, .int .i64 g)] [(0, ⟨5, true, [failV k]⟩), (1, ⟨5, true, [.agg [.int .i64 0, .int .i64 0, .str ⟨#[]⟩, .sl .ext [], .sl .ext []]]⟩)] 50) (fun g => 2 - g) 0 (by omega) ?_ ?_
  · refine Fit.mk _ _ _ (by simp [conv2, newEmp, convs_refl, convs, conv]) (by simp [heapFit, newEmp, conv2s, conv2, convs_refl, convs, conv]) (by intro q hq; first | (simp at hq; done) | (simp at hq; omega) | (simp at hq; simp; omega))
  intro g hg
  rcases (show g = 0 ∨ g = 1 by omega) with rfl | rfl
  · have hF := And.intro (hw) (elemAt.eq_1)
    repeat (first | ((with_reducible show AW _ _ _ _ _); first | refine AW.seq ?_ | refine AW.block ?_ | refine AW.reg ?_ | refine AW.draw ?_ | (refine AW.condT ?_ ?_ ?_; (focus (simp [hF]; done)); (focus (simp [hF]; done))) | (refine AW.condF ?_ ?_ ?_; (focus (simp [hF]; done)); (focus (simp [hF]; done))) | (refine AW.skip ?_; show AW _ _ _ _ _)) | refine wD1 ?_ | refine wD2 ?_ | refine wE1 ?_ | refine wE2 ?_ | (refine wE3 ?_; intro _) | (refine wE4 ?_; intro _) | refine wN ?_ | ((with_reducible show evIs _ (_ :: _) _ _); first | refine wQ ?_ | refine wF ?_ | refine wG ?_ | refine wT ?_ | refine wM ?_ | refine wS ?_ | refine wP ?_ | refine wJ ?_ | refine wX ?_ | refine wY ?_ | refine wZ ?_ | refine wU ?_) | refine evDone ?_ | ((fail_if_success with_reducible show AW _ _ _ _ _); show AW _ _ _ _ _))
    clear hF
    try (show AW _ _ _ _ _)
    refine ⟨1, by omega, by omega, ?_⟩
    refine Fit.mk _ _ _ (by simp [hw, conv2, newEmp, convs_refl, convs, conv]) (by simp [hw, heapFit, newEmp, conv2s, conv2, convs_refl, convs, conv]) (by intro q hq; first | (simp at hq; done) | (simp at hq; omega) | (simp at hq; simp; omega))
  · have hF := And.intro (hw) (elemAt.eq_1)
    repeat (first | ((with_reducible show AW _ _ _ _ _); first | refine AW.seq ?_ | refine AW.block ?_ | refine AW.reg ?_ | refine AW.draw ?_ | (refine AW.condT ?_ ?_ ?_; (focus (simp [hF]; done)); (focus (simp [hF]; done))) | (refine AW.condF ?_ ?_ ?_; (focus (simp [hF]; done)); (focus (simp [hF]; done))) | (refine AW.skip ?_; show AW _ _ _ _ _)) | refine wD1 ?_ | refine wD2 ?_ | refine wE1 ?_ | refine wE2 ?_ | (refine wE3 ?_; intro _) | (refine wE4 ?_; intro _) | refine wN ?_ | ((with_reducible show evIs _ (_ :: _) _ _); first | refine wQ ?_ | refine wF ?_ | refine wG ?_ | refine wT ?_ | refine wM ?_ | refine wS ?_ | refine wP ?_ | refine wJ ?_ | refine wX ?_ | refine wY ?_ | refine wZ ?_ | refine wU ?_) | refine evDone ?_ | ((fail_if_success with_reducible show AW _ _ _ _ _); show AW _ _ _ _ _))
    clear hF
    try (show AW _ _ _ _ _)
    refine AW.ret (retI rfl ?_)
    simp [a51_res, resOk, resP, resV, ARes.op, R2s, R2, R1s, R1, closeOk, closeV]
theorem f24 (k : ByteArray) : ACall Tryd.prog 24 [failV k, .str ⟨#[116, 121, 112, 101]⟩] (· = .tup [textV k, .bool true]) := by
  have h50 := f50m k
  have h51 := f51 k
  refine a24_of (by simp) ?_
  have hF := True.intro
  repeat (first | ((with_reducible show AW _ _ _ _ _); first | refine AW.seq ?_ | refine AW.block ?_ | refine AW.reg ?_ | refine AW.draw ?_ | (refine AW.condT ?_ ?_ ?_; (focus (simp [hF]; done)); (focus (simp [hF]; done))) | (refine AW.condF ?_ ?_ ?_; (focus (simp [hF]; done)); (focus (simp [hF]; done))) | (refine AW.skip ?_; show AW _ _ _ _ _)) | refine wD1 ?_ | refine wD2 ?_ | refine wE1 ?_ | refine wE2 ?_ | (refine wE3 ?_; intro _) | (refine wE4 ?_; intro _) | refine wN ?_ | ((with_reducible show evIs _ (_ :: _) _ _); first | refine wQ ?_ | refine wF ?_ | refine wG ?_ | refine wT ?_ | refine wM ?_ | refine wS ?_ | refine wP ?_ | refine wJ ?_ | refine wX ?_ | refine wY ?_ | refine wZ ?_ | refine wU ?_) | refine evDone ?_ | ((fail_if_success with_reducible show AW _ _ _ _ _); show AW _ _ _ _ _))
  clear hF
  try (show AW _ _ _ _ _)
  have hF := True.intro
  refine wC (hA := h50) ?_
  clear hF
  have hF := True.intro
  repeat (first | ((with_reducible show AW _ _ _ _ _); first | refine AW.seq ?_ | refine AW.block ?_ | refine AW.reg ?_ | refine AW.draw ?_ | (refine AW.condT ?_ ?_ ?_; (focus (simp [hF]; done)); (focus (simp [hF]; done))) | (refine AW.condF ?_ ?_ ?_; (focus (simp [hF]; done)); (focus (simp [hF]; done))) | (refine AW.skip ?_; show AW _ _ _ _ _)) | refine wD1 ?_ | refine wD2 ?_ | refine wE1 ?_ | refine wE2 ?_ | (refine wE3 ?_; intro _) | (refine wE4 ?_; intro _) | refine wN ?_ | ((with_reducible show evIs _ (_ :: _) _ _); first | refine wQ ?_ | refine wF ?_ | refine wG ?_ | refine wT ?_ | refine wM ?_ | refine wS ?_ | refine wP ?_ | refine wJ ?_ | refine wX ?_ | refine wY ?_ | refine wZ ?_ | refine wU ?_) | refine evDone ?_ | ((fail_if_success with_reducible show AW _ _ _ _ _); show AW _ _ _ _ _))
  clear hF
  try (show AW _ _ _ _ _)
  have hF := True.intro
  refine wC (hA := h51) ?_
  clear hF
  have hF := True.intro
  repeat (first | ((with_reducible show AW _ _ _ _ _); first | refine AW.seq ?_ | refine AW.block ?_ | refine AW.reg ?_ | refine AW.draw ?_ | (refine AW.condT ?_ ?_ ?_; (focus (simp [hF]; done)); (focus (simp [hF]; done))) | (refine AW.condF ?_ ?_ ?_; (focus (simp [hF]; done)); (focus (simp [hF]; done))) | (refine AW.skip ?_; show AW _ _ _ _ _)) | refine wD1 ?_ | refine wD2 ?_ | refine wE1 ?_ | refine wE2 ?_ | (refine wE3 ?_; intro _) | (refine wE4 ?_; intro _) | refine wN ?_ | ((with_reducible show evIs _ (_ :: _) _ _); first | refine wQ ?_ | refine wF ?_ | refine wG ?_ | refine wT ?_ | refine wM ?_ | refine wS ?_ | refine wP ?_ | refine wJ ?_ | refine wX ?_ | refine wY ?_ | refine wZ ?_ | refine wU ?_) | refine evDone ?_ | ((fail_if_success with_reducible show AW _ _ _ _ _); show AW _ _ _ _ _))
  clear hF
  try (show AW _ _ _ _ _)
  refine AW.ret (retI rfl ?_)
  simp [a24_res, resOk, resP, resV, ARes.op, R2s, R2, R1s, R1, closeOk, closeV]
end Go.Proofs.YtcccedmhlennmaaDoor

set_option linter.unusedSimpArgs false
set_option linter.unusedVariables false
set_option maxHeartbeats 4000000
namespace Go.Proofs.YtcccedmhlennmaaDoor
open Go Go.Amb Go.IntWalk Go.Ops

theorem f8 : ACall Tryd.prog 8 [] (· = .bool true) := by
  have h14a := f14 (-7)
  have h14b := f14 2
  have h14c := f14 (-9223372036854775808)
  have h14d := f14 (-1)
  have h14e := f14 1
  have h15a := f15 ⟨#[48, 49, 50]⟩
  have h15b := f15 ⟨#[97, 98, 99]⟩
  have hd : ACall Tryd.prog 13 [.int .i64 16, numV (-7), numV 2] (· = arV (-3)) := by
    have := f13b 16 (-7) 2 _ (by simp) (f44d (-7) 2 (by decide) (by decide) (by decide))
    exact this
  have hm : ACall Tryd.prog 13 [.int .i64 17, numV (-7), numV 2] (· = arV (-1)) :=
    f13_of 17 (-7) 2 (by simp) (-1) 0 _ (.inl rfl) (f44r (-7) 2 (by decide))
  have hz : ACall Tryd.prog 13 [.int .i64 16, numV (-9223372036854775808), numV (-1)] (· = erV 14) := by
    have := f13b 16 (-9223372036854775808) (-1) _ (by simp) (f44d (-9223372036854775808) (-1) (by decide) (by decide) (by decide))
    exact this
  have h9 := f9
  have h23 := f23
  have h25 := f25
  have h24 := f24 ⟨#[122, 101, 114, 111]⟩
  refine a8_of (by simp) ?_
  have hF := True.intro
  repeat (first | ((with_reducible show AW _ _ _ _ _); first | refine AW.seq ?_ | refine AW.block ?_ | refine AW.reg ?_ | refine AW.draw ?_ | (refine AW.condT ?_ ?_ ?_; (focus (simp [hF]; done)); (focus (simp [hF]; done))) | (refine AW.condF ?_ ?_ ?_; (focus (simp [hF]; done)); (focus (simp [hF]; done))) | (refine AW.skip ?_; show AW _ _ _ _ _)) | refine wD1 ?_ | refine wD2 ?_ | refine wE1 ?_ | refine wE2 ?_ | (refine wE3 ?_; intro _) | (refine wE4 ?_; intro _) | refine wN ?_ | ((with_reducible show evIs _ (_ :: _) _ _); first | refine wQ ?_ | refine wF ?_ | refine wG ?_ | refine wT ?_ | refine wM ?_ | refine wS ?_ | refine wP ?_ | refine wJ ?_ | refine wX ?_ | refine wY ?_ | refine wZ ?_ | refine wU ?_) | refine evDone ?_ | ((fail_if_success with_reducible show AW _ _ _ _ _); show AW _ _ _ _ _))
  clear hF
  try (show AW _ _ _ _ _)
  have hF := True.intro
  refine wC (hA := h14a) ?_
  clear hF
  have hF := True.intro
  repeat (first | ((with_reducible show AW _ _ _ _ _); first | refine AW.seq ?_ | refine AW.block ?_ | refine AW.reg ?_ | refine AW.draw ?_ | (refine AW.condT ?_ ?_ ?_; (focus (simp [hF]; done)); (focus (simp [hF]; done))) | (refine AW.condF ?_ ?_ ?_; (focus (simp [hF]; done)); (focus (simp [hF]; done))) | (refine AW.skip ?_; show AW _ _ _ _ _)) | refine wD1 ?_ | refine wD2 ?_ | refine wE1 ?_ | refine wE2 ?_ | (refine wE3 ?_; intro _) | (refine wE4 ?_; intro _) | refine wN ?_ | ((with_reducible show evIs _ (_ :: _) _ _); first | refine wQ ?_ | refine wF ?_ | refine wG ?_ | refine wT ?_ | refine wM ?_ | refine wS ?_ | refine wP ?_ | refine wJ ?_ | refine wX ?_ | refine wY ?_ | refine wZ ?_ | refine wU ?_) | refine evDone ?_ | ((fail_if_success with_reducible show AW _ _ _ _ _); show AW _ _ _ _ _))
  clear hF
  try (show AW _ _ _ _ _)
  have hF := True.intro
  refine wC (hA := h14b) ?_
  clear hF
  have hF := True.intro
  repeat (first | ((with_reducible show AW _ _ _ _ _); first | refine AW.seq ?_ | refine AW.block ?_ | refine AW.reg ?_ | refine AW.draw ?_ | (refine AW.condT ?_ ?_ ?_; (focus (simp [hF]; done)); (focus (simp [hF]; done))) | (refine AW.condF ?_ ?_ ?_; (focus (simp [hF]; done)); (focus (simp [hF]; done))) | (refine AW.skip ?_; show AW _ _ _ _ _)) | refine wD1 ?_ | refine wD2 ?_ | refine wE1 ?_ | refine wE2 ?_ | (refine wE3 ?_; intro _) | (refine wE4 ?_; intro _) | refine wN ?_ | ((with_reducible show evIs _ (_ :: _) _ _); first | refine wQ ?_ | refine wF ?_ | refine wG ?_ | refine wT ?_ | refine wM ?_ | refine wS ?_ | refine wP ?_ | refine wJ ?_ | refine wX ?_ | refine wY ?_ | refine wZ ?_ | refine wU ?_) | refine evDone ?_ | ((fail_if_success with_reducible show AW _ _ _ _ _); show AW _ _ _ _ _))
  clear hF
  try (show AW _ _ _ _ _)
  have hF := True.intro
  refine wC (hA := hd) ?_
  clear hF
  have hF := True.intro
  repeat (first | ((with_reducible show AW _ _ _ _ _); first | refine AW.seq ?_ | refine AW.block ?_ | refine AW.reg ?_ | refine AW.draw ?_ | (refine AW.condT ?_ ?_ ?_; (focus (simp [hF]; done)); (focus (simp [hF]; done))) | (refine AW.condF ?_ ?_ ?_; (focus (simp [hF]; done)); (focus (simp [hF]; done))) | (refine AW.skip ?_; show AW _ _ _ _ _)) | refine wD1 ?_ | refine wD2 ?_ | refine wE1 ?_ | refine wE2 ?_ | (refine wE3 ?_; intro _) | (refine wE4 ?_; intro _) | refine wN ?_ | ((with_reducible show evIs _ (_ :: _) _ _); first | refine wQ ?_ | refine wF ?_ | refine wG ?_ | refine wT ?_ | refine wM ?_ | refine wS ?_ | refine wP ?_ | refine wJ ?_ | refine wX ?_ | refine wY ?_ | refine wZ ?_ | refine wU ?_) | refine evDone ?_ | ((fail_if_success with_reducible show AW _ _ _ _ _); show AW _ _ _ _ _))
  clear hF
  try (show AW _ _ _ _ _)
  have hF := True.intro
  refine wC (hA := h14a) ?_
  clear hF
  have hF := True.intro
  repeat (first | ((with_reducible show AW _ _ _ _ _); first | refine AW.seq ?_ | refine AW.block ?_ | refine AW.reg ?_ | refine AW.draw ?_ | (refine AW.condT ?_ ?_ ?_; (focus (simp [hF]; done)); (focus (simp [hF]; done))) | (refine AW.condF ?_ ?_ ?_; (focus (simp [hF]; done)); (focus (simp [hF]; done))) | (refine AW.skip ?_; show AW _ _ _ _ _)) | refine wD1 ?_ | refine wD2 ?_ | refine wE1 ?_ | refine wE2 ?_ | (refine wE3 ?_; intro _) | (refine wE4 ?_; intro _) | refine wN ?_ | ((with_reducible show evIs _ (_ :: _) _ _); first | refine wQ ?_ | refine wF ?_ | refine wG ?_ | refine wT ?_ | refine wM ?_ | refine wS ?_ | refine wP ?_ | refine wJ ?_ | refine wX ?_ | refine wY ?_ | refine wZ ?_ | refine wU ?_) | refine evDone ?_ | ((fail_if_success with_reducible show AW _ _ _ _ _); show AW _ _ _ _ _))
  clear hF
  try (show AW _ _ _ _ _)
  have hF := True.intro
  refine wC (hA := h14b) ?_
  clear hF
  have hF := True.intro
  repeat (first | ((with_reducible show AW _ _ _ _ _); first | refine AW.seq ?_ | refine AW.block ?_ | refine AW.reg ?_ | refine AW.draw ?_ | (refine AW.condT ?_ ?_ ?_; (focus (simp [hF]; done)); (focus (simp [hF]; done))) | (refine AW.condF ?_ ?_ ?_; (focus (simp [hF]; done)); (focus (simp [hF]; done))) | (refine AW.skip ?_; show AW _ _ _ _ _)) | refine wD1 ?_ | refine wD2 ?_ | refine wE1 ?_ | refine wE2 ?_ | (refine wE3 ?_; intro _) | (refine wE4 ?_; intro _) | refine wN ?_ | ((with_reducible show evIs _ (_ :: _) _ _); first | refine wQ ?_ | refine wF ?_ | refine wG ?_ | refine wT ?_ | refine wM ?_ | refine wS ?_ | refine wP ?_ | refine wJ ?_ | refine wX ?_ | refine wY ?_ | refine wZ ?_ | refine wU ?_) | refine evDone ?_ | ((fail_if_success with_reducible show AW _ _ _ _ _); show AW _ _ _ _ _))
  clear hF
  try (show AW _ _ _ _ _)
  have hF := True.intro
  refine wC (hA := hm) ?_
  clear hF
  have hF := True.intro
  repeat (first | ((with_reducible show AW _ _ _ _ _); first | refine AW.seq ?_ | refine AW.block ?_ | refine AW.reg ?_ | refine AW.draw ?_ | (refine AW.condT ?_ ?_ ?_; (focus (simp [hF]; done)); (focus (simp [hF]; done))) | (refine AW.condF ?_ ?_ ?_; (focus (simp [hF]; done)); (focus (simp [hF]; done))) | (refine AW.skip ?_; show AW _ _ _ _ _)) | refine wD1 ?_ | refine wD2 ?_ | refine wE1 ?_ | refine wE2 ?_ | (refine wE3 ?_; intro _) | (refine wE4 ?_; intro _) | refine wN ?_ | ((with_reducible show evIs _ (_ :: _) _ _); first | refine wQ ?_ | refine wF ?_ | refine wG ?_ | refine wT ?_ | refine wM ?_ | refine wS ?_ | refine wP ?_ | refine wJ ?_ | refine wX ?_ | refine wY ?_ | refine wZ ?_ | refine wU ?_) | refine evDone ?_ | ((fail_if_success with_reducible show AW _ _ _ _ _); show AW _ _ _ _ _))
  clear hF
  try (show AW _ _ _ _ _)
  have hF := True.intro
  refine wC (hA := h14c) ?_
  clear hF
  have hF := True.intro
  repeat (first | ((with_reducible show AW _ _ _ _ _); first | refine AW.seq ?_ | refine AW.block ?_ | refine AW.reg ?_ | refine AW.draw ?_ | (refine AW.condT ?_ ?_ ?_; (focus (simp [hF]; done)); (focus (simp [hF]; done))) | (refine AW.condF ?_ ?_ ?_; (focus (simp [hF]; done)); (focus (simp [hF]; done))) | (refine AW.skip ?_; show AW _ _ _ _ _)) | refine wD1 ?_ | refine wD2 ?_ | refine wE1 ?_ | refine wE2 ?_ | (refine wE3 ?_; intro _) | (refine wE4 ?_; intro _) | refine wN ?_ | ((with_reducible show evIs _ (_ :: _) _ _); first | refine wQ ?_ | refine wF ?_ | refine wG ?_ | refine wT ?_ | refine wM ?_ | refine wS ?_ | refine wP ?_ | refine wJ ?_ | refine wX ?_ | refine wY ?_ | refine wZ ?_ | refine wU ?_) | refine evDone ?_ | ((fail_if_success with_reducible show AW _ _ _ _ _); show AW _ _ _ _ _))
  clear hF
  try (show AW _ _ _ _ _)
  have hF := True.intro
  refine wC (hA := h14d) ?_
  clear hF
  have hF := True.intro
  repeat (first | ((with_reducible show AW _ _ _ _ _); first | refine AW.seq ?_ | refine AW.block ?_ | refine AW.reg ?_ | refine AW.draw ?_ | (refine AW.condT ?_ ?_ ?_; (focus (simp [hF]; done)); (focus (simp [hF]; done))) | (refine AW.condF ?_ ?_ ?_; (focus (simp [hF]; done)); (focus (simp [hF]; done))) | (refine AW.skip ?_; show AW _ _ _ _ _)) | refine wD1 ?_ | refine wD2 ?_ | refine wE1 ?_ | refine wE2 ?_ | (refine wE3 ?_; intro _) | (refine wE4 ?_; intro _) | refine wN ?_ | ((with_reducible show evIs _ (_ :: _) _ _); first | refine wQ ?_ | refine wF ?_ | refine wG ?_ | refine wT ?_ | refine wM ?_ | refine wS ?_ | refine wP ?_ | refine wJ ?_ | refine wX ?_ | refine wY ?_ | refine wZ ?_ | refine wU ?_) | refine evDone ?_ | ((fail_if_success with_reducible show AW _ _ _ _ _); show AW _ _ _ _ _))
  clear hF
  try (show AW _ _ _ _ _)
  have hF := True.intro
  refine wC (hA := hz) ?_
  clear hF
  have hF := True.intro
  repeat (first | ((with_reducible show AW _ _ _ _ _); first | refine AW.seq ?_ | refine AW.block ?_ | refine AW.reg ?_ | refine AW.draw ?_ | (refine AW.condT ?_ ?_ ?_; (focus (simp [hF]; done)); (focus (simp [hF]; done))) | (refine AW.condF ?_ ?_ ?_; (focus (simp [hF]; done)); (focus (simp [hF]; done))) | (refine AW.skip ?_; show AW _ _ _ _ _)) | refine wD1 ?_ | refine wD2 ?_ | refine wE1 ?_ | refine wE2 ?_ | (refine wE3 ?_; intro _) | (refine wE4 ?_; intro _) | refine wN ?_ | ((with_reducible show evIs _ (_ :: _) _ _); first | refine wQ ?_ | refine wF ?_ | refine wG ?_ | refine wT ?_ | refine wM ?_ | refine wS ?_ | refine wP ?_ | refine wJ ?_ | refine wX ?_ | refine wY ?_ | refine wZ ?_ | refine wU ?_) | refine evDone ?_ | ((fail_if_success with_reducible show AW _ _ _ _ _); show AW _ _ _ _ _))
  clear hF
  try (show AW _ _ _ _ _)
  have hF := True.intro
  refine wC (hA := h15a) ?_
  clear hF
  have hF := True.intro
  repeat (first | ((with_reducible show AW _ _ _ _ _); first | refine AW.seq ?_ | refine AW.block ?_ | refine AW.reg ?_ | refine AW.draw ?_ | (refine AW.condT ?_ ?_ ?_; (focus (simp [hF]; done)); (focus (simp [hF]; done))) | (refine AW.condF ?_ ?_ ?_; (focus (simp [hF]; done)); (focus (simp [hF]; done))) | (refine AW.skip ?_; show AW _ _ _ _ _)) | refine wD1 ?_ | refine wD2 ?_ | refine wE1 ?_ | refine wE2 ?_ | (refine wE3 ?_; intro _) | (refine wE4 ?_; intro _) | refine wN ?_ | ((with_reducible show evIs _ (_ :: _) _ _); first | refine wQ ?_ | refine wF ?_ | refine wG ?_ | refine wT ?_ | refine wM ?_ | refine wS ?_ | refine wP ?_ | refine wJ ?_ | refine wX ?_ | refine wY ?_ | refine wZ ?_ | refine wU ?_) | refine evDone ?_ | ((fail_if_success with_reducible show AW _ _ _ _ _); show AW _ _ _ _ _))
  clear hF
  try (show AW _ _ _ _ _)
  have hF := True.intro
  refine wC (hA := h9) ?_
  clear hF
  have hF := True.intro
  repeat (first | ((with_reducible show AW _ _ _ _ _); first | refine AW.seq ?_ | refine AW.block ?_ | refine AW.reg ?_ | refine AW.draw ?_ | (refine AW.condT ?_ ?_ ?_; (focus (simp [hF]; done)); (focus (simp [hF]; done))) | (refine AW.condF ?_ ?_ ?_; (focus (simp [hF]; done)); (focus (simp [hF]; done))) | (refine AW.skip ?_; show AW _ _ _ _ _)) | refine wD1 ?_ | refine wD2 ?_ | refine wE1 ?_ | refine wE2 ?_ | (refine wE3 ?_; intro _) | (refine wE4 ?_; intro _) | refine wN ?_ | ((with_reducible show evIs _ (_ :: _) _ _); first | refine wQ ?_ | refine wF ?_ | refine wG ?_ | refine wT ?_ | refine wM ?_ | refine wS ?_ | refine wP ?_ | refine wJ ?_ | refine wX ?_ | refine wY ?_ | refine wZ ?_ | refine wU ?_) | refine evDone ?_ | ((fail_if_success with_reducible show AW _ _ _ _ _); show AW _ _ _ _ _))
  clear hF
  try (show AW _ _ _ _ _)
  have hF := True.intro
  refine wC (hA := h15b) ?_
  clear hF
  have hF := True.intro
  repeat (first | ((with_reducible show AW _ _ _ _ _); first | refine AW.seq ?_ | refine AW.block ?_ | refine AW.reg ?_ | refine AW.draw ?_ | (refine AW.condT ?_ ?_ ?_; (focus (simp [hF]; done)); (focus (simp [hF]; done))) | (refine AW.condF ?_ ?_ ?_; (focus (simp [hF]; done)); (focus (simp [hF]; done))) | (refine AW.skip ?_; show AW _ _ _ _ _)) | refine wD1 ?_ | refine wD2 ?_ | refine wE1 ?_ | refine wE2 ?_ | (refine wE3 ?_; intro _) | (refine wE4 ?_; intro _) | refine wN ?_ | ((with_reducible show evIs _ (_ :: _) _ _); first | refine wQ ?_ | refine wF ?_ | refine wG ?_ | refine wT ?_ | refine wM ?_ | refine wS ?_ | refine wP ?_ | refine wJ ?_ | refine wX ?_ | refine wY ?_ | refine wZ ?_ | refine wU ?_) | refine evDone ?_ | ((fail_if_success with_reducible show AW _ _ _ _ _); show AW _ _ _ _ _))
  clear hF
  try (show AW _ _ _ _ _)
  have hF := True.intro
  refine wC (hA := h14e) ?_
  clear hF
  have hF := True.intro
  repeat (first | ((with_reducible show AW _ _ _ _ _); first | refine AW.seq ?_ | refine AW.block ?_ | refine AW.reg ?_ | refine AW.draw ?_ | (refine AW.condT ?_ ?_ ?_; (focus (simp [hF]; done)); (focus (simp [hF]; done))) | (refine AW.condF ?_ ?_ ?_; (focus (simp [hF]; done)); (focus (simp [hF]; done))) | (refine AW.skip ?_; show AW _ _ _ _ _)) | refine wD1 ?_ | refine wD2 ?_ | refine wE1 ?_ | refine wE2 ?_ | (refine wE3 ?_; intro _) | (refine wE4 ?_; intro _) | refine wN ?_ | ((with_reducible show evIs _ (_ :: _) _ _); first | refine wQ ?_ | refine wF ?_ | refine wG ?_ | refine wT ?_ | refine wM ?_ | refine wS ?_ | refine wP ?_ | refine wJ ?_ | refine wX ?_ | refine wY ?_ | refine wZ ?_ | refine wU ?_) | refine evDone ?_ | ((fail_if_success with_reducible show AW _ _ _ _ _); show AW _ _ _ _ _))
  clear hF
  try (show AW _ _ _ _ _)
  have hF := True.intro
  refine wC (hA := h23) ?_
  clear hF
  have hF := True.intro
  repeat (first | ((with_reducible show AW _ _ _ _ _); first | refine AW.seq ?_ | refine AW.block ?_ | refine AW.reg ?_ | refine AW.draw ?_ | (refine AW.condT ?_ ?_ ?_; (focus (simp [hF]; done)); (focus (simp [hF]; done))) | (refine AW.condF ?_ ?_ ?_; (focus (simp [hF]; done)); (focus (simp [hF]; done))) | (refine AW.skip ?_; show AW _ _ _ _ _)) | refine wD1 ?_ | refine wD2 ?_ | refine wE1 ?_ | refine wE2 ?_ | (refine wE3 ?_; intro _) | (refine wE4 ?_; intro _) | refine wN ?_ | ((with_reducible show evIs _ (_ :: _) _ _); first | refine wQ ?_ | refine wF ?_ | refine wG ?_ | refine wT ?_ | refine wM ?_ | refine wS ?_ | refine wP ?_ | refine wJ ?_ | refine wX ?_ | refine wY ?_ | refine wZ ?_ | refine wU ?_) | refine evDone ?_ | ((fail_if_success with_reducible show AW _ _ _ _ _); show AW _ _ _ _ _))
  clear hF
  try (show AW _ _ _ _ _)
  have hF := True.intro
  refine wC (hA := h25) ?_
  clear hF
  have hF := True.intro
  repeat (first | ((with_reducible show AW _ _ _ _ _); first | refine AW.seq ?_ | refine AW.block ?_ | refine AW.reg ?_ | refine AW.draw ?_ | (refine AW.condT ?_ ?_ ?_; (focus (simp [hF]; done)); (focus (simp [hF]; done))) | (refine AW.condF ?_ ?_ ?_; (focus (simp [hF]; done)); (focus (simp [hF]; done))) | (refine AW.skip ?_; show AW _ _ _ _ _)) | refine wD1 ?_ | refine wD2 ?_ | refine wE1 ?_ | refine wE2 ?_ | (refine wE3 ?_; intro _) | (refine wE4 ?_; intro _) | refine wN ?_ | ((with_reducible show evIs _ (_ :: _) _ _); first | refine wQ ?_ | refine wF ?_ | refine wG ?_ | refine wT ?_ | refine wM ?_ | refine wS ?_ | refine wP ?_ | refine wJ ?_ | refine wX ?_ | refine wY ?_ | refine wZ ?_ | refine wU ?_) | refine evDone ?_ | ((fail_if_success with_reducible show AW _ _ _ _ _); show AW _ _ _ _ _))
  clear hF
  try (show AW _ _ _ _ _)
  have hF := True.intro
  refine wC (hA := h24) ?_
  clear hF
  have hF := True.intro
  repeat (first | ((with_reducible show AW _ _ _ _ _); first | refine AW.seq ?_ | refine AW.block ?_ | refine AW.reg ?_ | refine AW.draw ?_ | (refine AW.condT ?_ ?_ ?_; (focus (simp [hF]; done)); (focus (simp [hF]; done))) | (refine AW.condF ?_ ?_ ?_; (focus (simp [hF]; done)); (focus (simp [hF]; done))) | (refine AW.skip ?_; show AW _ _ _ _ _)) | refine wD1 ?_ | refine wD2 ?_ | refine wE1 ?_ | refine wE2 ?_ | (refine wE3 ?_; intro _) | (refine wE4 ?_; intro _) | refine wN ?_ | ((with_reducible show evIs _ (_ :: _) _ _); first | refine wQ ?_ | refine wF ?_ | refine wG ?_ | refine wT ?_ | refine wM ?_ | refine wS ?_ | refine wP ?_ | refine wJ ?_ | refine wX ?_ | refine wY ?_ | refine wZ ?_ | refine wU ?_) | refine evDone ?_ | ((fail_if_success with_reducible show AW _ _ _ _ _); show AW _ _ _ _ _))
  clear hF
  try (show AW _ _ _ _ _)
  refine AW.ret (retI rfl ?_)
  simp [a8_res, resOk, resP, resV, ARes.op, R2s, R2, R1s, R1, closeOk, closeV]
end Go.Proofs.YtcccedmhlennmaaDoor
