/- Contracts of chapter 12's functions, first part: numbers read and written. -/
import Derived.Test.YtcccedmhlennmaaDoorB
import Derived.Test.YtcccedmhlennmaaDoorC0
import Derived.Test.YtcccedmhlennmaaDoorA4
import Derived.Test.YtcccedmhlennmaaDoorA3
import Derived.IntWalk

set_option linter.unusedSimpArgs false
set_option linter.unusedVariables false
set_option maxHeartbeats 4000000
namespace Go.Proofs.YtcccedmhlennmaaDoor
open Go Go.Amb Go.IntWalk Go.Ops

def nF (g : Nat) : Int := if g = 2 then 1 else if g = 3 then 12 else 0
theorem f89 : ACall Tryd.prog 89 [.str ⟨#[48, 49, 50]⟩] (· = .tup [.int .i64 12, .nili]) := by
  have hw : IntKind.i64.wrap 3 = 3 ∧ IntKind.i64.wrap 1 = 1 ∧ IntKind.i64.wrap 2 = 2 ∧ IntKind.i64.wrap 0 = 0 ∧ IntKind.i64.wrap 10 = 10 ∧ IntKind.i64.wrap 12 = 12 ∧ IntKind.u8.wrap 0 = 0 ∧ IntKind.u8.wrap 1 = 1 ∧ IntKind.u8.wrap 2 = 2 := by decide
  have hnf : nF 0 = 0 ∧ nF 1 = 0 ∧ nF 2 = 1 ∧ nF 3 = 12 := by decide
  have hz : ByteArray.size ⟨#[48, 49, 50]⟩ = 3 ∧ (ByteArray.mk #[48, 49, 50]).data.toList = [48, 49, 50] := ⟨rfl, rfl⟩
  refine a89_of (by simp) ?_
  repeat refine AW.seq ?_
  refine AW.reg ?_
  have hF := hz
  repeat (first | refine wD1 ?_ | refine wD2 ?_ | refine wE1 ?_ | refine wE2 ?_ | (refine wE3 ?_; intro _) | (refine wE4 ?_; intro _) | refine wN ?_ | ((with_reducible show evIs _ (_ :: _) _ _); first | refine wQ ?_ | refine wF ?_ | refine wG ?_ | refine wT ?_ | refine wM ?_ | refine wS ?_ | refine wP ?_ | refine wJ ?_ | refine wX ?_ | refine wY ?_ | refine wZ ?_ | refine wU ?_))
  clear hF
  repeat refine evDone ?_
  try (show AW _ _ _ _ _)
  repeat refine AW.seq ?_
  refine AW.reg ?_
  have hF := hz
  repeat (first | refine wD1 ?_ | refine wD2 ?_ | refine wE1 ?_ | refine wE2 ?_ | (refine wE3 ?_; intro _) | (refine wE4 ?_; intro _) | refine wN ?_ | ((with_reducible show evIs _ (_ :: _) _ _); first | refine wQ ?_ | refine wF ?_ | refine wG ?_ | refine wT ?_ | refine wM ?_ | refine wS ?_ | refine wP ?_ | refine wJ ?_ | refine wX ?_ | refine wY ?_ | refine wZ ?_ | refine wU ?_))
  clear hF
  repeat refine evDone ?_
  try (show AW _ _ _ _ _)
  repeat refine AW.seq ?_
  refine AW.reg ?_
  have hF := hz
  repeat (first | refine wD1 ?_ | refine wD2 ?_ | refine wE1 ?_ | refine wE2 ?_ | (refine wE3 ?_; intro _) | (refine wE4 ?_; intro _) | refine wN ?_ | ((with_reducible show evIs _ (_ :: _) _ _); first | refine wQ ?_ | refine wF ?_ | refine wG ?_ | refine wT ?_ | refine wM ?_ | refine wS ?_ | refine wP ?_ | refine wJ ?_ | refine wX ?_ | refine wY ?_ | refine wZ ?_ | refine wU ?_))
  clear hF
  repeat refine evDone ?_
  try (show AW _ _ _ _ _)
  repeat refine AW.seq ?_
  refine AW.condT (by simp [hz]) (by simp [hz]) ?_
  repeat refine AW.seq ?_
  refine AW.reg ?_
  have hF := hz
  repeat (first | refine wD1 ?_ | refine wD2 ?_ | refine wE1 ?_ | refine wE2 ?_ | (refine wE3 ?_; intro _) | (refine wE4 ?_; intro _) | refine wN ?_ | ((with_reducible show evIs _ (_ :: _) _ _); first | refine wQ ?_ | refine wF ?_ | refine wG ?_ | refine wT ?_ | refine wM ?_ | refine wS ?_ | refine wP ?_ | refine wJ ?_ | refine wX ?_ | refine wY ?_ | refine wZ ?_ | refine wU ?_))
  clear hF
  repeat refine evDone ?_
  try (show AW _ _ _ _ _)
  repeat refine AW.seq ?_
  refine AW.reg ?_
  have hF := hz
  repeat (first | refine wD1 ?_ | refine wD2 ?_ | refine wE1 ?_ | refine wE2 ?_ | (refine wE3 ?_; intro _) | (refine wE4 ?_; intro _) | refine wN ?_ | ((with_reducible show evIs _ (_ :: _) _ _); first | refine wQ ?_ | refine wF ?_ | refine wG ?_ | refine wT ?_ | refine wM ?_ | refine wS ?_ | refine wP ?_ | refine wJ ?_ | refine wX ?_ | refine wY ?_ | refine wZ ?_ | refine wU ?_))
  clear hF
  repeat refine evDone ?_
  try (show AW _ _ _ _ _)
  repeat refine AW.seq ?_
  refine AW.condF (by simp []) (by simp []) ?_
  refine AW.skip ?_
  show AW _ _ _ _ _
  repeat refine AW.seq ?_
  refine AW.reg ?_
  have hF := hz
  repeat (first | refine wD1 ?_ | refine wD2 ?_ | refine wE1 ?_ | refine wE2 ?_ | (refine wE3 ?_; intro _) | (refine wE4 ?_; intro _) | refine wN ?_ | ((with_reducible show evIs _ (_ :: _) _ _); first | refine wQ ?_ | refine wF ?_ | refine wG ?_ | refine wT ?_ | refine wM ?_ | refine wS ?_ | refine wP ?_ | refine wJ ?_ | refine wX ?_ | refine wY ?_ | refine wZ ?_ | refine wU ?_))
  clear hF
  repeat refine evDone ?_
  try (show AW _ _ _ _ _)
  repeat refine AW.seq ?_
  refine AW.reg ?_
  have hF := hz
  repeat (first | refine wD1 ?_ | refine wD2 ?_ | refine wE1 ?_ | refine wE2 ?_ | (refine wE3 ?_; intro _) | (refine wE4 ?_; intro _) | refine wN ?_ | ((with_reducible show evIs _ (_ :: _) _ _); first | refine wQ ?_ | refine wF ?_ | refine wG ?_ | refine wT ?_ | refine wM ?_ | refine wS ?_ | refine wP ?_ | refine wJ ?_ | refine wX ?_ | refine wY ?_ | refine wZ ?_ | refine wU ?_))
  clear hF
  repeat refine evDone ?_
  try (show AW _ _ _ _ _)
  repeat refine AW.seq ?_
  refine AW.block ?_
  refine AW.loop (fun g : Nat => g ≤ 3) (fun g => mkS [(0, .str ⟨#[48, 49, 50]⟩), (2, .int .i64 0), (3, .nili), (5, .str ⟨#[48, 49, 50]⟩), (6, .int .i64 (nF g)), (47, .hdr 44 0 3), (48, .int .i64 3), (49, .int .i64 g)] [(44, ⟨1, false, [.int .u8 48, .int .u8 49, .int .u8 50]⟩)] 100) (fun g => 3 - g) 0 (by omega) ?_ ?_
  · refine Fit.mk _ _ _ (by simp [nF, hz, conv2, newEmp, convs_refl, convs, conv]) (by simp [nF, hz, heapFit, newEmp, conv2s, conv2, convs_refl, convs, conv]) (by intro q hq; first | (simp at hq; done) | (simp at hq; omega) | (simp at hq; simp; omega))
  intro g hg
  repeat refine AW.seq ?_
  refine AW.reg ?_
  rcases (show g = 0 ∨ g = 1 ∨ g = 2 ∨ g = 3 by omega) with rfl | rfl | rfl | rfl
  · have hF := And.intro (hnf) (hw)
    repeat (first | refine wD1 ?_ | refine wD2 ?_ | refine wE1 ?_ | refine wE2 ?_ | (refine wE3 ?_; intro _) | (refine wE4 ?_; intro _) | refine wN ?_ | ((with_reducible show evIs _ (_ :: _) _ _); first | refine wQ ?_ | refine wF ?_ | refine wG ?_ | refine wT ?_ | refine wM ?_ | refine wS ?_ | refine wP ?_ | refine wJ ?_ | refine wX ?_ | refine wY ?_ | refine wZ ?_ | refine wU ?_))
    clear hF
    repeat refine evDone ?_
    try (show AW _ _ _ _ _)
    repeat refine AW.seq ?_
    refine AW.condT (by simp []) (by simp []) ?_
    refine AW.skip ?_
    show AW _ _ _ _ _
    refine AW.seq (AW.block ?_)
    repeat refine AW.seq ?_
    refine AW.reg ?_
    have hF := elemAt.eq_1
    repeat (first | refine wD1 ?_ | refine wD2 ?_ | refine wE1 ?_ | refine wE2 ?_ | (refine wE3 ?_; intro _) | (refine wE4 ?_; intro _) | refine wN ?_ | ((with_reducible show evIs _ (_ :: _) _ _); first | refine wQ ?_ | refine wF ?_ | refine wG ?_ | refine wT ?_ | refine wM ?_ | refine wS ?_ | refine wP ?_ | refine wJ ?_ | refine wX ?_ | refine wY ?_ | refine wZ ?_ | refine wU ?_))
    clear hF
    repeat refine evDone ?_
    try (show AW _ _ _ _ _)
    repeat refine AW.seq ?_
    refine AW.reg ?_
    have hF := hw
    repeat (first | refine wD1 ?_ | refine wD2 ?_ | refine wE1 ?_ | refine wE2 ?_ | (refine wE3 ?_; intro _) | (refine wE4 ?_; intro _) | refine wN ?_ | ((with_reducible show evIs _ (_ :: _) _ _); first | refine wQ ?_ | refine wF ?_ | refine wG ?_ | refine wT ?_ | refine wM ?_ | refine wS ?_ | refine wP ?_ | refine wJ ?_ | refine wX ?_ | refine wY ?_ | refine wZ ?_ | refine wU ?_))
    clear hF
    repeat refine evDone ?_
    try (show AW _ _ _ _ _)
    repeat refine AW.seq ?_
    refine AW.reg ?_
    have hF := hw
    repeat (first | refine wD1 ?_ | refine wD2 ?_ | refine wE1 ?_ | refine wE2 ?_ | (refine wE3 ?_; intro _) | (refine wE4 ?_; intro _) | refine wN ?_ | ((with_reducible show evIs _ (_ :: _) _ _); first | refine wQ ?_ | refine wF ?_ | refine wG ?_ | refine wT ?_ | refine wM ?_ | refine wS ?_ | refine wP ?_ | refine wJ ?_ | refine wX ?_ | refine wY ?_ | refine wZ ?_ | refine wU ?_))
    clear hF
    repeat refine evDone ?_
    try (show AW _ _ _ _ _)
    repeat refine AW.seq ?_
    refine AW.condF (by simp []) (by simp []) ?_
    refine AW.skip ?_
    show AW _ _ _ _ _
    refine AW.reg ?_
    have hF := And.intro (hw) (hnf)
    repeat (first | refine wD1 ?_ | refine wD2 ?_ | refine wE1 ?_ | refine wE2 ?_ | (refine wE3 ?_; intro _) | (refine wE4 ?_; intro _) | refine wN ?_ | ((with_reducible show evIs _ (_ :: _) _ _); first | refine wQ ?_ | refine wF ?_ | refine wG ?_ | refine wT ?_ | refine wM ?_ | refine wS ?_ | refine wP ?_ | refine wJ ?_ | refine wX ?_ | refine wY ?_ | refine wZ ?_ | refine wU ?_))
    clear hF
    repeat refine evDone ?_
    try (show AW _ _ _ _ _)
    show AW _ _ _ _ _
    refine AW.reg ?_
    have hF := hw
    repeat (first | refine wD1 ?_ | refine wD2 ?_ | refine wE1 ?_ | refine wE2 ?_ | (refine wE3 ?_; intro _) | (refine wE4 ?_; intro _) | refine wN ?_ | ((with_reducible show evIs _ (_ :: _) _ _); first | refine wQ ?_ | refine wF ?_ | refine wG ?_ | refine wT ?_ | refine wM ?_ | refine wS ?_ | refine wP ?_ | refine wJ ?_ | refine wX ?_ | refine wY ?_ | refine wZ ?_ | refine wU ?_))
    clear hF
    repeat refine evDone ?_
    try (show AW _ _ _ _ _)
    refine ⟨1, by omega, by omega, ?_⟩
    refine Fit.mk _ _ _ (by simp [hw, hnf, conv2, newEmp, convs_refl, convs, conv]) (by simp [hw, hnf, heapFit, newEmp, conv2s, conv2, convs_refl, convs, conv]) (by intro q hq; first | (simp at hq; done) | (simp at hq; omega) | (simp at hq; simp; omega))
  · have hF := And.intro (hnf) (hw)
    repeat (first | refine wD1 ?_ | refine wD2 ?_ | refine wE1 ?_ | refine wE2 ?_ | (refine wE3 ?_; intro _) | (refine wE4 ?_; intro _) | refine wN ?_ | ((with_reducible show evIs _ (_ :: _) _ _); first | refine wQ ?_ | refine wF ?_ | refine wG ?_ | refine wT ?_ | refine wM ?_ | refine wS ?_ | refine wP ?_ | refine wJ ?_ | refine wX ?_ | refine wY ?_ | refine wZ ?_ | refine wU ?_))
    clear hF
    repeat refine evDone ?_
    try (show AW _ _ _ _ _)
    repeat refine AW.seq ?_
    refine AW.condT (by simp []) (by simp []) ?_
    refine AW.skip ?_
    show AW _ _ _ _ _
    refine AW.seq (AW.block ?_)
    repeat refine AW.seq ?_
    refine AW.reg ?_
    have hF := elemAt.eq_1
    repeat (first | refine wD1 ?_ | refine wD2 ?_ | refine wE1 ?_ | refine wE2 ?_ | (refine wE3 ?_; intro _) | (refine wE4 ?_; intro _) | refine wN ?_ | ((with_reducible show evIs _ (_ :: _) _ _); first | refine wQ ?_ | refine wF ?_ | refine wG ?_ | refine wT ?_ | refine wM ?_ | refine wS ?_ | refine wP ?_ | refine wJ ?_ | refine wX ?_ | refine wY ?_ | refine wZ ?_ | refine wU ?_))
    clear hF
    repeat refine evDone ?_
    try (show AW _ _ _ _ _)
    repeat refine AW.seq ?_
    refine AW.reg ?_
    have hF := hw
    repeat (first | refine wD1 ?_ | refine wD2 ?_ | refine wE1 ?_ | refine wE2 ?_ | (refine wE3 ?_; intro _) | (refine wE4 ?_; intro _) | refine wN ?_ | ((with_reducible show evIs _ (_ :: _) _ _); first | refine wQ ?_ | refine wF ?_ | refine wG ?_ | refine wT ?_ | refine wM ?_ | refine wS ?_ | refine wP ?_ | refine wJ ?_ | refine wX ?_ | refine wY ?_ | refine wZ ?_ | refine wU ?_))
    clear hF
    repeat refine evDone ?_
    try (show AW _ _ _ _ _)
    repeat refine AW.seq ?_
    refine AW.reg ?_
    have hF := hw
    repeat (first | refine wD1 ?_ | refine wD2 ?_ | refine wE1 ?_ | refine wE2 ?_ | (refine wE3 ?_; intro _) | (refine wE4 ?_; intro _) | refine wN ?_ | ((with_reducible show evIs _ (_ :: _) _ _); first | refine wQ ?_ | refine wF ?_ | refine wG ?_ | refine wT ?_ | refine wM ?_ | refine wS ?_ | refine wP ?_ | refine wJ ?_ | refine wX ?_ | refine wY ?_ | refine wZ ?_ | refine wU ?_))
    clear hF
    repeat refine evDone ?_
    try (show AW _ _ _ _ _)
    repeat refine AW.seq ?_
    refine AW.condF (by simp []) (by simp []) ?_
    refine AW.skip ?_
    show AW _ _ _ _ _
    refine AW.reg ?_
    have hF := And.intro (hw) (hnf)
    repeat (first | refine wD1 ?_ | refine wD2 ?_ | refine wE1 ?_ | refine wE2 ?_ | (refine wE3 ?_; intro _) | (refine wE4 ?_; intro _) | refine wN ?_ | ((with_reducible show evIs _ (_ :: _) _ _); first | refine wQ ?_ | refine wF ?_ | refine wG ?_ | refine wT ?_ | refine wM ?_ | refine wS ?_ | refine wP ?_ | refine wJ ?_ | refine wX ?_ | refine wY ?_ | refine wZ ?_ | refine wU ?_))
    clear hF
    repeat refine evDone ?_
    try (show AW _ _ _ _ _)
    show AW _ _ _ _ _
    refine AW.reg ?_
    have hF := hw
    repeat (first | refine wD1 ?_ | refine wD2 ?_ | refine wE1 ?_ | refine wE2 ?_ | (refine wE3 ?_; intro _) | (refine wE4 ?_; intro _) | refine wN ?_ | ((with_reducible show evIs _ (_ :: _) _ _); first | refine wQ ?_ | refine wF ?_ | refine wG ?_ | refine wT ?_ | refine wM ?_ | refine wS ?_ | refine wP ?_ | refine wJ ?_ | refine wX ?_ | refine wY ?_ | refine wZ ?_ | refine wU ?_))
    clear hF
    repeat refine evDone ?_
    try (show AW _ _ _ _ _)
    refine ⟨2, by omega, by omega, ?_⟩
    refine Fit.mk _ _ _ (by simp [hw, hnf, conv2, newEmp, convs_refl, convs, conv]) (by simp [hw, hnf, heapFit, newEmp, conv2s, conv2, convs_refl, convs, conv]) (by intro q hq; first | (simp at hq; done) | (simp at hq; omega) | (simp at hq; simp; omega))
  · have hF := And.intro (hnf) (hw)
    repeat (first | refine wD1 ?_ | refine wD2 ?_ | refine wE1 ?_ | refine wE2 ?_ | (refine wE3 ?_; intro _) | (refine wE4 ?_; intro _) | refine wN ?_ | ((with_reducible show evIs _ (_ :: _) _ _); first | refine wQ ?_ | refine wF ?_ | refine wG ?_ | refine wT ?_ | refine wM ?_ | refine wS ?_ | refine wP ?_ | refine wJ ?_ | refine wX ?_ | refine wY ?_ | refine wZ ?_ | refine wU ?_))
    clear hF
    repeat refine evDone ?_
    try (show AW _ _ _ _ _)
    repeat refine AW.seq ?_
    refine AW.condT (by simp []) (by simp []) ?_
    refine AW.skip ?_
    show AW _ _ _ _ _
    refine AW.seq (AW.block ?_)
    repeat refine AW.seq ?_
    refine AW.reg ?_
    have hF := elemAt.eq_1
    repeat (first | refine wD1 ?_ | refine wD2 ?_ | refine wE1 ?_ | refine wE2 ?_ | (refine wE3 ?_; intro _) | (refine wE4 ?_; intro _) | refine wN ?_ | ((with_reducible show evIs _ (_ :: _) _ _); first | refine wQ ?_ | refine wF ?_ | refine wG ?_ | refine wT ?_ | refine wM ?_ | refine wS ?_ | refine wP ?_ | refine wJ ?_ | refine wX ?_ | refine wY ?_ | refine wZ ?_ | refine wU ?_))
    clear hF
    repeat refine evDone ?_
    try (show AW _ _ _ _ _)
    repeat refine AW.seq ?_
    refine AW.reg ?_
    have hF := hw
    repeat (first | refine wD1 ?_ | refine wD2 ?_ | refine wE1 ?_ | refine wE2 ?_ | (refine wE3 ?_; intro _) | (refine wE4 ?_; intro _) | refine wN ?_ | ((with_reducible show evIs _ (_ :: _) _ _); first | refine wQ ?_ | refine wF ?_ | refine wG ?_ | refine wT ?_ | refine wM ?_ | refine wS ?_ | refine wP ?_ | refine wJ ?_ | refine wX ?_ | refine wY ?_ | refine wZ ?_ | refine wU ?_))
    clear hF
    repeat refine evDone ?_
    try (show AW _ _ _ _ _)
    repeat refine AW.seq ?_
    refine AW.reg ?_
    have hF := hw
    repeat (first | refine wD1 ?_ | refine wD2 ?_ | refine wE1 ?_ | refine wE2 ?_ | (refine wE3 ?_; intro _) | (refine wE4 ?_; intro _) | refine wN ?_ | ((with_reducible show evIs _ (_ :: _) _ _); first | refine wQ ?_ | refine wF ?_ | refine wG ?_ | refine wT ?_ | refine wM ?_ | refine wS ?_ | refine wP ?_ | refine wJ ?_ | refine wX ?_ | refine wY ?_ | refine wZ ?_ | refine wU ?_))
    clear hF
    repeat refine evDone ?_
    try (show AW _ _ _ _ _)
    repeat refine AW.seq ?_
    refine AW.condF (by simp []) (by simp []) ?_
    refine AW.skip ?_
    show AW _ _ _ _ _
    refine AW.reg ?_
    have hF := And.intro (hw) (hnf)
    repeat (first | refine wD1 ?_ | refine wD2 ?_ | refine wE1 ?_ | refine wE2 ?_ | (refine wE3 ?_; intro _) | (refine wE4 ?_; intro _) | refine wN ?_ | ((with_reducible show evIs _ (_ :: _) _ _); first | refine wQ ?_ | refine wF ?_ | refine wG ?_ | refine wT ?_ | refine wM ?_ | refine wS ?_ | refine wP ?_ | refine wJ ?_ | refine wX ?_ | refine wY ?_ | refine wZ ?_ | refine wU ?_))
    clear hF
    repeat refine evDone ?_
    try (show AW _ _ _ _ _)
    show AW _ _ _ _ _
    refine AW.reg ?_
    have hF := hw
    repeat (first | refine wD1 ?_ | refine wD2 ?_ | refine wE1 ?_ | refine wE2 ?_ | (refine wE3 ?_; intro _) | (refine wE4 ?_; intro _) | refine wN ?_ | ((with_reducible show evIs _ (_ :: _) _ _); first | refine wQ ?_ | refine wF ?_ | refine wG ?_ | refine wT ?_ | refine wM ?_ | refine wS ?_ | refine wP ?_ | refine wJ ?_ | refine wX ?_ | refine wY ?_ | refine wZ ?_ | refine wU ?_))
    clear hF
    repeat refine evDone ?_
    try (show AW _ _ _ _ _)
    refine ⟨3, by omega, by omega, ?_⟩
    refine Fit.mk _ _ _ (by simp [hw, hnf, conv2, newEmp, convs_refl, convs, conv]) (by simp [hw, hnf, heapFit, newEmp, conv2s, conv2, convs_refl, convs, conv]) (by intro q hq; first | (simp at hq; done) | (simp at hq; omega) | (simp at hq; simp; omega))
  · have hF := And.intro (hnf) (hw)
    repeat (first | refine wD1 ?_ | refine wD2 ?_ | refine wE1 ?_ | refine wE2 ?_ | (refine wE3 ?_; intro _) | (refine wE4 ?_; intro _) | refine wN ?_ | ((with_reducible show evIs _ (_ :: _) _ _); first | refine wQ ?_ | refine wF ?_ | refine wG ?_ | refine wT ?_ | refine wM ?_ | refine wS ?_ | refine wP ?_ | refine wJ ?_ | refine wX ?_ | refine wY ?_ | refine wZ ?_ | refine wU ?_))
    clear hF
    repeat refine evDone ?_
    try (show AW _ _ _ _ _)
    repeat refine AW.seq ?_
    refine AW.condF (by simp []) (by simp []) ?_
    refine AW.exit ?_
    show AW _ _ _ _ _
    repeat refine AW.seq ?_
    refine AW.reg ?_
    have hF := hz
    repeat (first | refine wD1 ?_ | refine wD2 ?_ | refine wE1 ?_ | refine wE2 ?_ | (refine wE3 ?_; intro _) | (refine wE4 ?_; intro _) | refine wN ?_ | ((with_reducible show evIs _ (_ :: _) _ _); first | refine wQ ?_ | refine wF ?_ | refine wG ?_ | refine wT ?_ | refine wM ?_ | refine wS ?_ | refine wP ?_ | refine wJ ?_ | refine wX ?_ | refine wY ?_ | refine wZ ?_ | refine wU ?_))
    clear hF
    repeat refine evDone ?_
    try (show AW _ _ _ _ _)
    repeat refine AW.seq ?_
    refine AW.condF (by simp []) (by simp []) ?_
    refine AW.skip ?_
    show AW _ _ _ _ _
    repeat refine AW.seq ?_
    refine AW.reg ?_
    have hF := hz
    repeat (first | refine wD1 ?_ | refine wD2 ?_ | refine wE1 ?_ | refine wE2 ?_ | (refine wE3 ?_; intro _) | (refine wE4 ?_; intro _) | refine wN ?_ | ((with_reducible show evIs _ (_ :: _) _ _); first | refine wQ ?_ | refine wF ?_ | refine wG ?_ | refine wT ?_ | refine wM ?_ | refine wS ?_ | refine wP ?_ | refine wJ ?_ | refine wX ?_ | refine wY ?_ | refine wZ ?_ | refine wU ?_))
    clear hF
    repeat refine evDone ?_
    try (show AW _ _ _ _ _)
    refine AW.ret (retI rfl ?_)
    simp [hnf, a89_res, resOk, resP, resV, ARes.op, R2s, R2, R1s, R1, closeOk, closeV]
theorem f79 : ACall Tryd.prog 79 [.str ⟨#[48, 49, 50]⟩] (· = .tup [.int .i64 12, .nili]) := by
  have h := f89
  refine a79_of (by simp) ?_
  repeat refine AW.seq ?_
  refine AW.reg ?_
  have hF := True.intro
  repeat (first | refine wD1 ?_ | refine wD2 ?_ | refine wE1 ?_ | refine wE2 ?_ | (refine wE3 ?_; intro _) | (refine wE4 ?_; intro _) | refine wN ?_ | ((with_reducible show evIs _ (_ :: _) _ _); first | refine wQ ?_ | refine wF ?_ | refine wG ?_ | refine wT ?_ | refine wM ?_ | refine wS ?_ | refine wP ?_ | refine wJ ?_ | refine wX ?_ | refine wY ?_ | refine wZ ?_ | refine wU ?_))
  clear hF
  repeat refine evDone ?_
  try (show AW _ _ _ _ _)
  repeat refine AW.seq ?_
  refine AW.reg ?_
  have hF := True.intro
  repeat (first | refine wD1 ?_ | refine wD2 ?_ | refine wE1 ?_ | refine wE2 ?_ | (refine wE3 ?_; intro _) | (refine wE4 ?_; intro _) | refine wN ?_ | ((with_reducible show evIs _ (_ :: _) _ _); first | refine wQ ?_ | refine wF ?_ | refine wG ?_ | refine wT ?_ | refine wM ?_ | refine wS ?_ | refine wP ?_ | refine wJ ?_ | refine wX ?_ | refine wY ?_ | refine wZ ?_ | refine wU ?_))
  clear hF
  repeat refine evDone ?_
  try (show AW _ _ _ _ _)
  have hF := True.intro
  refine wC (hA := h) ?_
  clear hF
  have hF := True.intro
  repeat (first | refine wD1 ?_ | refine wD2 ?_ | refine wE1 ?_ | refine wE2 ?_ | (refine wE3 ?_; intro _) | (refine wE4 ?_; intro _) | refine wN ?_ | ((with_reducible show evIs _ (_ :: _) _ _); first | refine wQ ?_ | refine wF ?_ | refine wG ?_ | refine wT ?_ | refine wM ?_ | refine wS ?_ | refine wP ?_ | refine wJ ?_ | refine wX ?_ | refine wY ?_ | refine wZ ?_ | refine wU ?_))
  clear hF
  repeat refine evDone ?_
  try (show AW _ _ _ _ _)
  repeat refine AW.seq ?_
  refine AW.reg ?_
  have hF := True.intro
  repeat (first | refine wD1 ?_ | refine wD2 ?_ | refine wE1 ?_ | refine wE2 ?_ | (refine wE3 ?_; intro _) | (refine wE4 ?_; intro _) | refine wN ?_ | ((with_reducible show evIs _ (_ :: _) _ _); first | refine wQ ?_ | refine wF ?_ | refine wG ?_ | refine wT ?_ | refine wM ?_ | refine wS ?_ | refine wP ?_ | refine wJ ?_ | refine wX ?_ | refine wY ?_ | refine wZ ?_ | refine wU ?_))
  clear hF
  repeat refine evDone ?_
  try (show AW _ _ _ _ _)
  repeat refine AW.seq ?_
  refine AW.condF (by simp []) (by simp []) ?_
  refine AW.skip ?_
  show AW _ _ _ _ _
  repeat refine AW.seq ?_
  refine AW.reg ?_
  have hF := True.intro
  repeat (first | refine wD1 ?_ | refine wD2 ?_ | refine wE1 ?_ | refine wE2 ?_ | (refine wE3 ?_; intro _) | (refine wE4 ?_; intro _) | refine wN ?_ | ((with_reducible show evIs _ (_ :: _) _ _); first | refine wQ ?_ | refine wF ?_ | refine wG ?_ | refine wT ?_ | refine wM ?_ | refine wS ?_ | refine wP ?_ | refine wJ ?_ | refine wX ?_ | refine wY ?_ | refine wZ ?_ | refine wU ?_))
  clear hF
  repeat refine evDone ?_
  try (show AW _ _ _ _ _)
  refine AW.ret (retI rfl ?_)
  simp [a79_res, resOk, resP, resV, ARes.op, R2s, R2, R1s, R1, closeOk, closeV]
theorem f98 : ACall Tryd.prog 98 [.int .i64 12] (· = .str ⟨#[49, 50]⟩) := by
  have hw : IntKind.i64.wrap 24 = 24 ∧ IntKind.i64.wrap 26 = 26 := by decide
  refine a98_of (by simp) ?_
  repeat refine AW.seq ?_
  refine AW.reg ?_
  have hF := True.intro
  repeat (first | refine wD1 ?_ | refine wD2 ?_ | refine wE1 ?_ | refine wE2 ?_ | (refine wE3 ?_; intro _) | (refine wE4 ?_; intro _) | refine wN ?_ | ((with_reducible show evIs _ (_ :: _) _ _); first | refine wQ ?_ | refine wF ?_ | refine wG ?_ | refine wT ?_ | refine wM ?_ | refine wS ?_ | refine wP ?_ | refine wJ ?_ | refine wX ?_ | refine wY ?_ | refine wZ ?_ | refine wU ?_))
  clear hF
  repeat refine evDone ?_
  try (show AW _ _ _ _ _)
  repeat refine AW.seq ?_
  refine AW.reg ?_
  have hF := True.intro
  repeat (first | refine wD1 ?_ | refine wD2 ?_ | refine wE1 ?_ | refine wE2 ?_ | (refine wE3 ?_; intro _) | (refine wE4 ?_; intro _) | refine wN ?_ | ((with_reducible show evIs _ (_ :: _) _ _); first | refine wQ ?_ | refine wF ?_ | refine wG ?_ | refine wT ?_ | refine wM ?_ | refine wS ?_ | refine wP ?_ | refine wJ ?_ | refine wX ?_ | refine wY ?_ | refine wZ ?_ | refine wU ?_))
  clear hF
  repeat refine evDone ?_
  try (show AW _ _ _ _ _)
  repeat refine AW.seq ?_
  refine AW.condF (by simp []) (by simp []) ?_
  refine AW.skip ?_
  show AW _ _ _ _ _
  repeat refine AW.seq ?_
  refine AW.reg ?_
  have hF := hw
  repeat (first | refine wD1 ?_ | refine wD2 ?_ | refine wE1 ?_ | refine wE2 ?_ | (refine wE3 ?_; intro _) | (refine wE4 ?_; intro _) | refine wN ?_ | ((with_reducible show evIs _ (_ :: _) _ _); first | refine wQ ?_ | refine wF ?_ | refine wG ?_ | refine wT ?_ | refine wM ?_ | refine wS ?_ | refine wP ?_ | refine wJ ?_ | refine wX ?_ | refine wY ?_ | refine wZ ?_ | refine wU ?_))
  clear hF
  repeat refine evDone ?_
  try (show AW _ _ _ _ _)
  refine evQ rfl rfl rfl (show _ = AV.str ⟨#[49, 50]⟩ from ?_) ?_ ?_
  · kernel_rfl
  · exact ⟨trivial, ⟨trivial, rfl, (show (0 : Int) ≤ 24 by omega), (show (24 : Int) ≤ 26 by omega)⟩, ⟨trivial, rfl, (show (0 : Int) ≤ 26 by omega), Int.le_trans (show (26 : Int) ≤ 200 by omega) (Int.le_of_eq (by kernel_rfl))⟩⟩
  have hF := hw
  repeat (first | refine wD1 ?_ | refine wD2 ?_ | refine wE1 ?_ | refine wE2 ?_ | (refine wE3 ?_; intro _) | (refine wE4 ?_; intro _) | refine wN ?_ | ((with_reducible show evIs _ (_ :: _) _ _); first | refine wQ ?_ | refine wF ?_ | refine wG ?_ | refine wT ?_ | refine wM ?_ | refine wS ?_ | refine wP ?_ | refine wJ ?_ | refine wX ?_ | refine wY ?_ | refine wZ ?_ | refine wU ?_))
  clear hF
  repeat refine evDone ?_
  try (show AW _ _ _ _ _)
  refine AW.ret (retI rfl ?_)
  simp [a98_res, resOk, resP, resV, ARes.op, R2s, R2, R1s, R1, closeOk, closeV]
theorem f92 : ACall Tryd.prog 92 [.int .i64 12, .int .i64 10] (· = .str ⟨#[49, 50]⟩) := by
  have h := f98
  have hw : IntKind.i64.wrap 12 = 12 := by decide
  refine a92_of (by simp) ?_
  repeat refine AW.seq ?_
  refine AW.reg ?_
  have hF := True.intro
  repeat (first | refine wD1 ?_ | refine wD2 ?_ | refine wE1 ?_ | refine wE2 ?_ | (refine wE3 ?_; intro _) | (refine wE4 ?_; intro _) | refine wN ?_ | ((with_reducible show evIs _ (_ :: _) _ _); first | refine wQ ?_ | refine wF ?_ | refine wG ?_ | refine wT ?_ | refine wM ?_ | refine wS ?_ | refine wP ?_ | refine wJ ?_ | refine wX ?_ | refine wY ?_ | refine wZ ?_ | refine wU ?_))
  clear hF
  repeat refine evDone ?_
  try (show AW _ _ _ _ _)
  repeat refine AW.seq ?_
  refine AW.reg ?_
  have hF := True.intro
  repeat (first | refine wD1 ?_ | refine wD2 ?_ | refine wE1 ?_ | refine wE2 ?_ | (refine wE3 ?_; intro _) | (refine wE4 ?_; intro _) | refine wN ?_ | ((with_reducible show evIs _ (_ :: _) _ _); first | refine wQ ?_ | refine wF ?_ | refine wG ?_ | refine wT ?_ | refine wM ?_ | refine wS ?_ | refine wP ?_ | refine wJ ?_ | refine wX ?_ | refine wY ?_ | refine wZ ?_ | refine wU ?_))
  clear hF
  repeat refine evDone ?_
  try (show AW _ _ _ _ _)
  repeat refine AW.seq ?_
  refine AW.condT (by simp []) (by simp []) ?_
  repeat refine AW.seq ?_
  refine AW.reg ?_
  have hF := True.intro
  repeat (first | refine wD1 ?_ | refine wD2 ?_ | refine wE1 ?_ | refine wE2 ?_ | (refine wE3 ?_; intro _) | (refine wE4 ?_; intro _) | refine wN ?_ | ((with_reducible show evIs _ (_ :: _) _ _); first | refine wQ ?_ | refine wF ?_ | refine wG ?_ | refine wT ?_ | refine wM ?_ | refine wS ?_ | refine wP ?_ | refine wJ ?_ | refine wX ?_ | refine wY ?_ | refine wZ ?_ | refine wU ?_))
  clear hF
  repeat refine evDone ?_
  try (show AW _ _ _ _ _)
  repeat refine AW.seq ?_
  refine AW.condT (by simp []) (by simp []) ?_
  repeat refine AW.seq ?_
  refine AW.reg ?_
  have hF := hw
  repeat (first | refine wD1 ?_ | refine wD2 ?_ | refine wE1 ?_ | refine wE2 ?_ | (refine wE3 ?_; intro _) | (refine wE4 ?_; intro _) | refine wN ?_ | ((with_reducible show evIs _ (_ :: _) _ _); first | refine wQ ?_ | refine wF ?_ | refine wG ?_ | refine wT ?_ | refine wM ?_ | refine wS ?_ | refine wP ?_ | refine wJ ?_ | refine wX ?_ | refine wY ?_ | refine wZ ?_ | refine wU ?_))
  clear hF
  repeat refine evDone ?_
  try (show AW _ _ _ _ _)
  have hF := True.intro
  refine wC (hA := h) ?_
  clear hF
  have hF := True.intro
  repeat (first | refine wD1 ?_ | refine wD2 ?_ | refine wE1 ?_ | refine wE2 ?_ | (refine wE3 ?_; intro _) | (refine wE4 ?_; intro _) | refine wN ?_ | ((with_reducible show evIs _ (_ :: _) _ _); first | refine wQ ?_ | refine wF ?_ | refine wG ?_ | refine wT ?_ | refine wM ?_ | refine wS ?_ | refine wP ?_ | refine wJ ?_ | refine wX ?_ | refine wY ?_ | refine wZ ?_ | refine wU ?_))
  clear hF
  repeat refine evDone ?_
  try (show AW _ _ _ _ _)
  refine AW.ret (retI rfl ?_)
  simp [a92_res, resOk, resP, resV, ARes.op, R2s, R2, R1s, R1, closeOk, closeV]
theorem f88 : ACall Tryd.prog 88 [.int .i64 12] (· = .str ⟨#[49, 50]⟩) := by
  have h := f92
  have hw : IntKind.i64.wrap 12 = 12 := by decide
  refine a88_of (by simp) ?_
  repeat refine AW.seq ?_
  refine AW.reg ?_
  have hF := True.intro
  repeat (first | refine wD1 ?_ | refine wD2 ?_ | refine wE1 ?_ | refine wE2 ?_ | (refine wE3 ?_; intro _) | (refine wE4 ?_; intro _) | refine wN ?_ | ((with_reducible show evIs _ (_ :: _) _ _); first | refine wQ ?_ | refine wF ?_ | refine wG ?_ | refine wT ?_ | refine wM ?_ | refine wS ?_ | refine wP ?_ | refine wJ ?_ | refine wX ?_ | refine wY ?_ | refine wZ ?_ | refine wU ?_))
  clear hF
  repeat refine evDone ?_
  try (show AW _ _ _ _ _)
  repeat refine AW.seq ?_
  refine AW.reg ?_
  have hF := hw
  repeat (first | refine wD1 ?_ | refine wD2 ?_ | refine wE1 ?_ | refine wE2 ?_ | (refine wE3 ?_; intro _) | (refine wE4 ?_; intro _) | refine wN ?_ | ((with_reducible show evIs _ (_ :: _) _ _); first | refine wQ ?_ | refine wF ?_ | refine wG ?_ | refine wT ?_ | refine wM ?_ | refine wS ?_ | refine wP ?_ | refine wJ ?_ | refine wX ?_ | refine wY ?_ | refine wZ ?_ | refine wU ?_))
  clear hF
  repeat refine evDone ?_
  try (show AW _ _ _ _ _)
  have hF := True.intro
  refine wC (hA := h) ?_
  clear hF
  have hF := True.intro
  repeat (first | refine wD1 ?_ | refine wD2 ?_ | refine wE1 ?_ | refine wE2 ?_ | (refine wE3 ?_; intro _) | (refine wE4 ?_; intro _) | refine wN ?_ | ((with_reducible show evIs _ (_ :: _) _ _); first | refine wQ ?_ | refine wF ?_ | refine wG ?_ | refine wT ?_ | refine wM ?_ | refine wS ?_ | refine wP ?_ | refine wJ ?_ | refine wX ?_ | refine wY ?_ | refine wZ ?_ | refine wU ?_))
  clear hF
  repeat refine evDone ?_
  try (show AW _ _ _ _ _)
  refine AW.ret (retI rfl ?_)
  simp [a88_res, resOk, resP, resV, ARes.op, R2s, R2, R1s, R1, closeOk, closeV]
theorem f78 : ACall Tryd.prog 78 [.int .i64 12] (· = .str ⟨#[49, 50]⟩) := by
  have h := f88
  refine a78_of (by simp) ?_
  repeat refine AW.seq ?_
  refine AW.reg ?_
  have hF := True.intro
  repeat (first | refine wD1 ?_ | refine wD2 ?_ | refine wE1 ?_ | refine wE2 ?_ | (refine wE3 ?_; intro _) | (refine wE4 ?_; intro _) | refine wN ?_ | ((with_reducible show evIs _ (_ :: _) _ _); first | refine wQ ?_ | refine wF ?_ | refine wG ?_ | refine wT ?_ | refine wM ?_ | refine wS ?_ | refine wP ?_ | refine wJ ?_ | refine wX ?_ | refine wY ?_ | refine wZ ?_ | refine wU ?_))
  clear hF
  repeat refine evDone ?_
  try (show AW _ _ _ _ _)
  repeat refine AW.seq ?_
  refine AW.reg ?_
  have hF := True.intro
  repeat (first | refine wD1 ?_ | refine wD2 ?_ | refine wE1 ?_ | refine wE2 ?_ | (refine wE3 ?_; intro _) | (refine wE4 ?_; intro _) | refine wN ?_ | ((with_reducible show evIs _ (_ :: _) _ _); first | refine wQ ?_ | refine wF ?_ | refine wG ?_ | refine wT ?_ | refine wM ?_ | refine wS ?_ | refine wP ?_ | refine wJ ?_ | refine wX ?_ | refine wY ?_ | refine wZ ?_ | refine wU ?_))
  clear hF
  repeat refine evDone ?_
  try (show AW _ _ _ _ _)
  have hF := True.intro
  refine wC (hA := h) ?_
  clear hF
  have hF := True.intro
  repeat (first | refine wD1 ?_ | refine wD2 ?_ | refine wE1 ?_ | refine wE2 ?_ | (refine wE3 ?_; intro _) | (refine wE4 ?_; intro _) | refine wN ?_ | ((with_reducible show evIs _ (_ :: _) _ _); first | refine wQ ?_ | refine wF ?_ | refine wG ?_ | refine wT ?_ | refine wM ?_ | refine wS ?_ | refine wP ?_ | refine wJ ?_ | refine wX ?_ | refine wY ?_ | refine wZ ?_ | refine wU ?_))
  clear hF
  repeat refine evDone ?_
  try (show AW _ _ _ _ _)
  refine AW.ret (retI rfl ?_)
  simp [a78_res, resOk, resP, resV, ARes.op, R2s, R2, R1s, R1, closeOk, closeV]
end Go.Proofs.YtcccedmhlennmaaDoor

set_option linter.unusedSimpArgs false
set_option linter.unusedVariables false
set_option maxHeartbeats 4000000
namespace Go.Proofs.YtcccedmhlennmaaDoor
open Go Go.Amb Go.IntWalk Go.Ops

abbrev numV (n : Int) : AV := .agg [.int .i64 2, .int .i64 n, .str ⟨#[]⟩, .sl .fro [], .sl .fro []]
abbrev textV (s : ByteArray) : AV := .agg [.int .i64 3, .int .i64 0, .str s, .sl .fro [], .sl .fro []]
abbrev boolV (b : Bool) : AV := .agg [.int .i64 1, .int .i64 (if b then 1 else 0), .str ⟨#[]⟩, .sl .fro [], .sl .fro []]
abbrev nullV : AV := .agg [.int .i64 0, .int .i64 0, .str ⟨#[]⟩, .sl .fro [], .sl .fro []]
theorem f70 (n : Int) : ACall Tryd.prog 70 [.int .i64 n] (· = numV n) := by
  refine a70_of (by simp) ?_
  have hF := True.intro
  repeat (first | ((with_reducible show AW _ _ _ _ _); first | refine AW.seq ?_ | refine AW.block ?_ | refine AW.reg ?_ | refine AW.draw ?_ | (refine AW.condT ?_ ?_ ?_; (focus (simp [hF]; done)); (focus (simp [hF]; done))) | (refine AW.condF ?_ ?_ ?_; (focus (simp [hF]; done)); (focus (simp [hF]; done))) | (refine AW.skip ?_; show AW _ _ _ _ _)) | refine wD1 ?_ | refine wD2 ?_ | refine wE1 ?_ | refine wE2 ?_ | (refine wE3 ?_; intro _) | (refine wE4 ?_; intro _) | refine wN ?_ | ((with_reducible show evIs _ (_ :: _) _ _); first | refine wQ ?_ | refine wF ?_ | refine wG ?_ | refine wT ?_ | refine wM ?_ | refine wS ?_ | refine wP ?_ | refine wJ ?_ | refine wX ?_ | refine wY ?_ | refine wZ ?_ | refine wU ?_) | refine evDone ?_ | ((fail_if_success with_reducible show AW _ _ _ _ _); show AW _ _ _ _ _))
  clear hF
  try (show AW _ _ _ _ _)
  refine AW.ret (retI rfl ?_)
  simp [a70_res, resOk, resP, resV, ARes.op, R2s, R2, R1s, R1, closeOk, closeV]
theorem f14 (n : Int) : ACall Tryd.prog 14 [.int .i64 n] (· = numV n) := by
  refine a14_of (by simp) ?_
  have hF := True.intro
  repeat (first | ((with_reducible show AW _ _ _ _ _); first | refine AW.seq ?_ | refine AW.block ?_ | refine AW.reg ?_ | refine AW.draw ?_ | (refine AW.condT ?_ ?_ ?_; (focus (simp [hF]; done)); (focus (simp [hF]; done))) | (refine AW.condF ?_ ?_ ?_; (focus (simp [hF]; done)); (focus (simp [hF]; done))) | (refine AW.skip ?_; show AW _ _ _ _ _)) | refine wD1 ?_ | refine wD2 ?_ | refine wE1 ?_ | refine wE2 ?_ | (refine wE3 ?_; intro _) | (refine wE4 ?_; intro _) | refine wN ?_ | ((with_reducible show evIs _ (_ :: _) _ _); first | refine wQ ?_ | refine wF ?_ | refine wG ?_ | refine wT ?_ | refine wM ?_ | refine wS ?_ | refine wP ?_ | refine wJ ?_ | refine wX ?_ | refine wY ?_ | refine wZ ?_ | refine wU ?_) | refine evDone ?_ | ((fail_if_success with_reducible show AW _ _ _ _ _); show AW _ _ _ _ _))
  clear hF
  try (show AW _ _ _ _ _)
  refine AW.ret (retI rfl ?_)
  simp [a14_res, resOk, resP, resV, ARes.op, R2s, R2, R1s, R1, closeOk, closeV]
theorem f49 (s : ByteArray) : ACall Tryd.prog 49 [.str s] (· = textV s) := by
  refine a49_of (by simp) ?_
  have hF := True.intro
  repeat (first | ((with_reducible show AW _ _ _ _ _); first | refine AW.seq ?_ | refine AW.block ?_ | refine AW.reg ?_ | refine AW.draw ?_ | (refine AW.condT ?_ ?_ ?_; (focus (simp [hF]; done)); (focus (simp [hF]; done))) | (refine AW.condF ?_ ?_ ?_; (focus (simp [hF]; done)); (focus (simp [hF]; done))) | (refine AW.skip ?_; show AW _ _ _ _ _)) | refine wD1 ?_ | refine wD2 ?_ | refine wE1 ?_ | refine wE2 ?_ | (refine wE3 ?_; intro _) | (refine wE4 ?_; intro _) | refine wN ?_ | ((with_reducible show evIs _ (_ :: _) _ _); first | refine wQ ?_ | refine wF ?_ | refine wG ?_ | refine wT ?_ | refine wM ?_ | refine wS ?_ | refine wP ?_ | refine wJ ?_ | refine wX ?_ | refine wY ?_ | refine wZ ?_ | refine wU ?_) | refine evDone ?_ | ((fail_if_success with_reducible show AW _ _ _ _ _); show AW _ _ _ _ _))
  clear hF
  try (show AW _ _ _ _ _)
  refine AW.ret (retI rfl ?_)
  simp [a49_res, resOk, resP, resV, ARes.op, R2s, R2, R1s, R1, closeOk, closeV]
theorem f15 (s : ByteArray) : ACall Tryd.prog 15 [.str s] (· = textV s) := by
  refine a15_of (by simp) ?_
  have hF := True.intro
  repeat (first | ((with_reducible show AW _ _ _ _ _); first | refine AW.seq ?_ | refine AW.block ?_ | refine AW.reg ?_ | refine AW.draw ?_ | (refine AW.condT ?_ ?_ ?_; (focus (simp [hF]; done)); (focus (simp [hF]; done))) | (refine AW.condF ?_ ?_ ?_; (focus (simp [hF]; done)); (focus (simp [hF]; done))) | (refine AW.skip ?_; show AW _ _ _ _ _)) | refine wD1 ?_ | refine wD2 ?_ | refine wE1 ?_ | refine wE2 ?_ | (refine wE3 ?_; intro _) | (refine wE4 ?_; intro _) | refine wN ?_ | ((with_reducible show evIs _ (_ :: _) _ _); first | refine wQ ?_ | refine wF ?_ | refine wG ?_ | refine wT ?_ | refine wM ?_ | refine wS ?_ | refine wP ?_ | refine wJ ?_ | refine wX ?_ | refine wY ?_ | refine wZ ?_ | refine wU ?_) | refine evDone ?_ | ((fail_if_success with_reducible show AW _ _ _ _ _); show AW _ _ _ _ _))
  clear hF
  try (show AW _ _ _ _ _)
  refine AW.ret (retI rfl ?_)
  simp [a15_res, resOk, resP, resV, ARes.op, R2s, R2, R1s, R1, closeOk, closeV]
theorem f53 : ACall Tryd.prog 53 [] (· = nullV) := by
  refine a53_of (by simp) ?_
  have hF := True.intro
  repeat (first | ((with_reducible show AW _ _ _ _ _); first | refine AW.seq ?_ | refine AW.block ?_ | refine AW.reg ?_ | refine AW.draw ?_ | (refine AW.condT ?_ ?_ ?_; (focus (simp [hF]; done)); (focus (simp [hF]; done))) | (refine AW.condF ?_ ?_ ?_; (focus (simp [hF]; done)); (focus (simp [hF]; done))) | (refine AW.skip ?_; show AW _ _ _ _ _)) | refine wD1 ?_ | refine wD2 ?_ | refine wE1 ?_ | refine wE2 ?_ | (refine wE3 ?_; intro _) | (refine wE4 ?_; intro _) | refine wN ?_ | ((with_reducible show evIs _ (_ :: _) _ _); first | refine wQ ?_ | refine wF ?_ | refine wG ?_ | refine wT ?_ | refine wM ?_ | refine wS ?_ | refine wP ?_ | refine wJ ?_ | refine wX ?_ | refine wY ?_ | refine wZ ?_ | refine wU ?_) | refine evDone ?_ | ((fail_if_success with_reducible show AW _ _ _ _ _); show AW _ _ _ _ _))
  clear hF
  try (show AW _ _ _ _ _)
  refine AW.ret (retI rfl ?_)
  simp [a53_res, resOk, resP, resV, ARes.op, R2s, R2, R1s, R1, closeOk, closeV]
theorem f31 (b : Bool) : ACall Tryd.prog 31 [.bool b] (· = boolV b) := by
  refine a31_of (by simp) ?_
  cases b
  · have hF := True.intro
    repeat (first | ((with_reducible show AW _ _ _ _ _); first | refine AW.seq ?_ | refine AW.block ?_ | refine AW.reg ?_ | refine AW.draw ?_ | (refine AW.condT ?_ ?_ ?_; (focus (simp [hF]; done)); (focus (simp [hF]; done))) | (refine AW.condF ?_ ?_ ?_; (focus (simp [hF]; done)); (focus (simp [hF]; done))) | (refine AW.skip ?_; show AW _ _ _ _ _)) | refine wD1 ?_ | refine wD2 ?_ | refine wE1 ?_ | refine wE2 ?_ | (refine wE3 ?_; intro _) | (refine wE4 ?_; intro _) | refine wN ?_ | ((with_reducible show evIs _ (_ :: _) _ _); first | refine wQ ?_ | refine wF ?_ | refine wG ?_ | refine wT ?_ | refine wM ?_ | refine wS ?_ | refine wP ?_ | refine wJ ?_ | refine wX ?_ | refine wY ?_ | refine wZ ?_ | refine wU ?_) | refine evDone ?_ | ((fail_if_success with_reducible show AW _ _ _ _ _); show AW _ _ _ _ _))
    clear hF
    try (show AW _ _ _ _ _)
    refine AW.ret (retI rfl ?_)
    simp [a31_res, resOk, resP, resV, ARes.op, R2s, R2, R1s, R1, closeOk, closeV]
  · have hF := True.intro
    repeat (first | ((with_reducible show AW _ _ _ _ _); first | refine AW.seq ?_ | refine AW.block ?_ | refine AW.reg ?_ | refine AW.draw ?_ | (refine AW.condT ?_ ?_ ?_; (focus (simp [hF]; done)); (focus (simp [hF]; done))) | (refine AW.condF ?_ ?_ ?_; (focus (simp [hF]; done)); (focus (simp [hF]; done))) | (refine AW.skip ?_; show AW _ _ _ _ _)) | refine wD1 ?_ | refine wD2 ?_ | refine wE1 ?_ | refine wE2 ?_ | (refine wE3 ?_; intro _) | (refine wE4 ?_; intro _) | refine wN ?_ | ((with_reducible show evIs _ (_ :: _) _ _); first | refine wQ ?_ | refine wF ?_ | refine wG ?_ | refine wT ?_ | refine wM ?_ | refine wS ?_ | refine wP ?_ | refine wJ ?_ | refine wX ?_ | refine wY ?_ | refine wZ ?_ | refine wU ?_) | refine evDone ?_ | ((fail_if_success with_reducible show AW _ _ _ _ _); show AW _ _ _ _ _))
    clear hF
    try (show AW _ _ _ _ _)
    refine AW.ret (retI rfl ?_)
    simp [a31_res, resOk, resP, resV, ARes.op, R2s, R2, R1s, R1, closeOk, closeV]
theorem f26 : ACall Tryd.prog 26 [.str ⟨#[105, 110, 116]⟩] (· = .tup [.int .i64 1, .int .i64 1, .int .i64 1]) := by
  refine a26_of (by simp) ?_
  have hF := True.intro
  repeat (first | ((with_reducible show AW _ _ _ _ _); first | refine AW.seq ?_ | refine AW.block ?_ | refine AW.reg ?_ | refine AW.draw ?_ | (refine AW.condT ?_ ?_ ?_; (focus (simp [hF]; done)); (focus (simp [hF]; done))) | (refine AW.condF ?_ ?_ ?_; (focus (simp [hF]; done)); (focus (simp [hF]; done))) | (refine AW.skip ?_; show AW _ _ _ _ _)) | refine wD1 ?_ | refine wD2 ?_ | refine wE1 ?_ | refine wE2 ?_ | (refine wE3 ?_; intro _) | (refine wE4 ?_; intro _) | refine wN ?_ | ((with_reducible show evIs _ (_ :: _) _ _); first | refine wQ ?_ | refine wF ?_ | refine wG ?_ | refine wT ?_ | refine wM ?_ | refine wS ?_ | refine wP ?_ | refine wJ ?_ | refine wX ?_ | refine wY ?_ | refine wZ ?_ | refine wU ?_) | refine evDone ?_ | ((fail_if_success with_reducible show AW _ _ _ _ _); show AW _ _ _ _ _))
  clear hF
  try (show AW _ _ _ _ _)
  refine AW.ret (retI rfl ?_)
  simp [a26_res, resOk, resP, resV, ARes.op, R2s, R2, R1s, R1, closeOk, closeV]
theorem f59 : ACall Tryd.prog 59 [textV ⟨#[48, 49, 50]⟩] (· = .tup [nullV, .int .i64 2]) := by
  have h79 := f79
  have h78 := f78
  refine a59_of (by simp) ?_
  have hF := True.intro
  repeat (first | ((with_reducible show AW _ _ _ _ _); first | refine AW.seq ?_ | refine AW.block ?_ | refine AW.reg ?_ | refine AW.draw ?_ | (refine AW.condT ?_ ?_ ?_; (focus (simp [hF]; done)); (focus (simp [hF]; done))) | (refine AW.condF ?_ ?_ ?_; (focus (simp [hF]; done)); (focus (simp [hF]; done))) | (refine AW.skip ?_; show AW _ _ _ _ _)) | refine wD1 ?_ | refine wD2 ?_ | refine wE1 ?_ | refine wE2 ?_ | (refine wE3 ?_; intro _) | (refine wE4 ?_; intro _) | refine wN ?_ | ((with_reducible show evIs _ (_ :: _) _ _); first | refine wQ ?_ | refine wF ?_ | refine wG ?_ | refine wT ?_ | refine wM ?_ | refine wS ?_ | refine wP ?_ | refine wJ ?_ | refine wX ?_ | refine wY ?_ | refine wZ ?_ | refine wU ?_) | refine evDone ?_ | ((fail_if_success with_reducible show AW _ _ _ _ _); show AW _ _ _ _ _))
  clear hF
  try (show AW _ _ _ _ _)
  have hF := True.intro
  refine wC (hA := h79) ?_
  clear hF
  have hF := True.intro
  repeat (first | ((with_reducible show AW _ _ _ _ _); first | refine AW.seq ?_ | refine AW.block ?_ | refine AW.reg ?_ | refine AW.draw ?_ | (refine AW.condT ?_ ?_ ?_; (focus (simp [hF]; done)); (focus (simp [hF]; done))) | (refine AW.condF ?_ ?_ ?_; (focus (simp [hF]; done)); (focus (simp [hF]; done))) | (refine AW.skip ?_; show AW _ _ _ _ _)) | refine wD1 ?_ | refine wD2 ?_ | refine wE1 ?_ | refine wE2 ?_ | (refine wE3 ?_; intro _) | (refine wE4 ?_; intro _) | refine wN ?_ | ((with_reducible show evIs _ (_ :: _) _ _); first | refine wQ ?_ | refine wF ?_ | refine wG ?_ | refine wT ?_ | refine wM ?_ | refine wS ?_ | refine wP ?_ | refine wJ ?_ | refine wX ?_ | refine wY ?_ | refine wZ ?_ | refine wU ?_) | refine evDone ?_ | ((fail_if_success with_reducible show AW _ _ _ _ _); show AW _ _ _ _ _))
  clear hF
  try (show AW _ _ _ _ _)
  have hF := True.intro
  refine wC (hA := h78) ?_
  clear hF
  have hF := True.intro
  repeat (first | ((with_reducible show AW _ _ _ _ _); first | refine AW.seq ?_ | refine AW.block ?_ | refine AW.reg ?_ | refine AW.draw ?_ | (refine AW.condT ?_ ?_ ?_; (focus (simp [hF]; done)); (focus (simp [hF]; done))) | (refine AW.condF ?_ ?_ ?_; (focus (simp [hF]; done)); (focus (simp [hF]; done))) | (refine AW.skip ?_; show AW _ _ _ _ _)) | refine wD1 ?_ | refine wD2 ?_ | refine wE1 ?_ | refine wE2 ?_ | (refine wE3 ?_; intro _) | (refine wE4 ?_; intro _) | refine wN ?_ | ((with_reducible show evIs _ (_ :: _) _ _); first | refine wQ ?_ | refine wF ?_ | refine wG ?_ | refine wT ?_ | refine wM ?_ | refine wS ?_ | refine wP ?_ | refine wJ ?_ | refine wX ?_ | refine wY ?_ | refine wZ ?_ | refine wU ?_) | refine evDone ?_ | ((fail_if_success with_reducible show AW _ _ _ _ _); show AW _ _ _ _ _))
  clear hF
  try (show AW _ _ _ _ _)
  refine AW.ret (retI rfl ?_)
  simp [a59_res, resOk, resP, resV, ARes.op, R2s, R2, R1s, R1, closeOk, closeV]
theorem f32 : ACall Tryd.prog 32 [.str ⟨#[105, 110, 116]⟩, textV ⟨#[48, 49, 50]⟩] (· = .tup [nullV, .int .i64 2]) := by
  have h59 := f59
  refine a32_of (by simp) ?_
  have hF := True.intro
  repeat (first | ((with_reducible show AW _ _ _ _ _); first | refine AW.seq ?_ | refine AW.block ?_ | refine AW.reg ?_ | refine AW.draw ?_ | (refine AW.condT ?_ ?_ ?_; (focus (simp [hF]; done)); (focus (simp [hF]; done))) | (refine AW.condF ?_ ?_ ?_; (focus (simp [hF]; done)); (focus (simp [hF]; done))) | (refine AW.skip ?_; show AW _ _ _ _ _)) | refine wD1 ?_ | refine wD2 ?_ | refine wE1 ?_ | refine wE2 ?_ | (refine wE3 ?_; intro _) | (refine wE4 ?_; intro _) | refine wN ?_ | ((with_reducible show evIs _ (_ :: _) _ _); first | refine wQ ?_ | refine wF ?_ | refine wG ?_ | refine wT ?_ | refine wM ?_ | refine wS ?_ | refine wP ?_ | refine wJ ?_ | refine wX ?_ | refine wY ?_ | refine wZ ?_ | refine wU ?_) | refine evDone ?_ | ((fail_if_success with_reducible show AW _ _ _ _ _); show AW _ _ _ _ _))
  clear hF
  try (show AW _ _ _ _ _)
  have hF := True.intro
  refine wC (hA := h59) ?_
  clear hF
  have hF := True.intro
  repeat (first | ((with_reducible show AW _ _ _ _ _); first | refine AW.seq ?_ | refine AW.block ?_ | refine AW.reg ?_ | refine AW.draw ?_ | (refine AW.condT ?_ ?_ ?_; (focus (simp [hF]; done)); (focus (simp [hF]; done))) | (refine AW.condF ?_ ?_ ?_; (focus (simp [hF]; done)); (focus (simp [hF]; done))) | (refine AW.skip ?_; show AW _ _ _ _ _)) | refine wD1 ?_ | refine wD2 ?_ | refine wE1 ?_ | refine wE2 ?_ | (refine wE3 ?_; intro _) | (refine wE4 ?_; intro _) | refine wN ?_ | ((with_reducible show evIs _ (_ :: _) _ _); first | refine wQ ?_ | refine wF ?_ | refine wG ?_ | refine wT ?_ | refine wM ?_ | refine wS ?_ | refine wP ?_ | refine wJ ?_ | refine wX ?_ | refine wY ?_ | refine wZ ?_ | refine wU ?_) | refine evDone ?_ | ((fail_if_success with_reducible show AW _ _ _ _ _); show AW _ _ _ _ _))
  clear hF
  try (show AW _ _ _ _ _)
  refine AW.ret (retI rfl ?_)
  simp [a32_res, resOk, resP, resV, ARes.op, R2s, R2, R1s, R1, closeOk, closeV]
theorem f9 : ACall Tryd.prog 9 [.str ⟨#[105, 110, 116]⟩, .sl .fro [textV ⟨#[48, 49, 50]⟩]] (· = .tup [nullV, .int .i64 2]) := by
  have h26 := f26
  have h32 := f32
  refine a9_of (by simp) ?_
  have hF := True.intro
  repeat (first | ((with_reducible show AW _ _ _ _ _); first | refine AW.seq ?_ | refine AW.block ?_ | refine AW.reg ?_ | refine AW.draw ?_ | (refine AW.condT ?_ ?_ ?_; (focus (simp [hF]; done)); (focus (simp [hF]; done))) | (refine AW.condF ?_ ?_ ?_; (focus (simp [hF]; done)); (focus (simp [hF]; done))) | (refine AW.skip ?_; show AW _ _ _ _ _)) | refine wD1 ?_ | refine wD2 ?_ | refine wE1 ?_ | refine wE2 ?_ | (refine wE3 ?_; intro _) | (refine wE4 ?_; intro _) | refine wN ?_ | ((with_reducible show evIs _ (_ :: _) _ _); first | refine wQ ?_ | refine wF ?_ | refine wG ?_ | refine wT ?_ | refine wM ?_ | refine wS ?_ | refine wP ?_ | refine wJ ?_ | refine wX ?_ | refine wY ?_ | refine wZ ?_ | refine wU ?_) | refine evDone ?_ | ((fail_if_success with_reducible show AW _ _ _ _ _); show AW _ _ _ _ _))
  clear hF
  try (show AW _ _ _ _ _)
  have hF := True.intro
  refine wC (hA := h26) ?_
  clear hF
  have hF := True.intro
  repeat (first | ((with_reducible show AW _ _ _ _ _); first | refine AW.seq ?_ | refine AW.block ?_ | refine AW.reg ?_ | refine AW.draw ?_ | (refine AW.condT ?_ ?_ ?_; (focus (simp [hF]; done)); (focus (simp [hF]; done))) | (refine AW.condF ?_ ?_ ?_; (focus (simp [hF]; done)); (focus (simp [hF]; done))) | (refine AW.skip ?_; show AW _ _ _ _ _)) | refine wD1 ?_ | refine wD2 ?_ | refine wE1 ?_ | refine wE2 ?_ | (refine wE3 ?_; intro _) | (refine wE4 ?_; intro _) | refine wN ?_ | ((with_reducible show evIs _ (_ :: _) _ _); first | refine wQ ?_ | refine wF ?_ | refine wG ?_ | refine wT ?_ | refine wM ?_ | refine wS ?_ | refine wP ?_ | refine wJ ?_ | refine wX ?_ | refine wY ?_ | refine wZ ?_ | refine wU ?_) | refine evDone ?_ | ((fail_if_success with_reducible show AW _ _ _ _ _); show AW _ _ _ _ _))
  clear hF
  try (show AW _ _ _ _ _)
  have hF := True.intro
  refine wC (hA := h32) ?_
  clear hF
  have hF := True.intro
  repeat (first | ((with_reducible show AW _ _ _ _ _); first | refine AW.seq ?_ | refine AW.block ?_ | refine AW.reg ?_ | refine AW.draw ?_ | (refine AW.condT ?_ ?_ ?_; (focus (simp [hF]; done)); (focus (simp [hF]; done))) | (refine AW.condF ?_ ?_ ?_; (focus (simp [hF]; done)); (focus (simp [hF]; done))) | (refine AW.skip ?_; show AW _ _ _ _ _)) | refine wD1 ?_ | refine wD2 ?_ | refine wE1 ?_ | refine wE2 ?_ | (refine wE3 ?_; intro _) | (refine wE4 ?_; intro _) | refine wN ?_ | ((with_reducible show evIs _ (_ :: _) _ _); first | refine wQ ?_ | refine wF ?_ | refine wG ?_ | refine wT ?_ | refine wM ?_ | refine wS ?_ | refine wP ?_ | refine wJ ?_ | refine wX ?_ | refine wY ?_ | refine wZ ?_ | refine wU ?_) | refine evDone ?_ | ((fail_if_success with_reducible show AW _ _ _ _ _); show AW _ _ _ _ _))
  clear hF
  try (show AW _ _ _ _ _)
  refine AW.ret (retI rfl ?_)
  simp [a9_res, resOk, resP, resV, ARes.op, R2s, R2, R1s, R1, closeOk, closeV]
end Go.Proofs.YtcccedmhlennmaaDoor

set_option linter.unusedSimpArgs false
set_option linter.unusedVariables false
set_option maxHeartbeats 4000000
namespace Go.Proofs.YtcccedmhlennmaaDoor
open Go Go.Amb Go.IntWalk Go.Ops

theorem f82 (n : Int) (h : okr n) : ACall Tryd.prog 82 [.int .i64 n] (· = .int .u64 (magF n)) := by
  have h1 : n < 0 → IntKind.u64.wrap (-IntKind.u64.wrap n) = magF n := fun h0 => by
    unfold okr at h
    simp [IntKind.wrap, IntKind.bits, IntKind.signed, magF]; omega
  have h2 : ¬ n < 0 → IntKind.u64.wrap n = magF n := fun h0 => by
    unfold okr at h
    simp [IntKind.wrap, IntKind.bits, IntKind.signed, magF]; omega
  refine a82_of (by simp) ?_
  by_cases h0 : n < 0
  · have h3 := h1 h0
    have hF := And.intro (h0) (h3)
    repeat (first | ((with_reducible show AW _ _ _ _ _); first | refine AW.seq ?_ | refine AW.block ?_ | refine AW.reg ?_ | refine AW.draw ?_ | (refine AW.condT ?_ ?_ ?_; (focus (simp [hF]; done)); (focus (simp [hF]; done))) | (refine AW.condF ?_ ?_ ?_; (focus (simp [hF]; done)); (focus (simp [hF]; done))) | (refine AW.skip ?_; show AW _ _ _ _ _)) | refine wD1 ?_ | refine wD2 ?_ | refine wE1 ?_ | refine wE2 ?_ | (refine wE3 ?_; intro _) | (refine wE4 ?_; intro _) | refine wN ?_ | ((with_reducible show evIs _ (_ :: _) _ _); first | refine wQ ?_ | refine wF ?_ | refine wG ?_ | refine wT ?_ | refine wM ?_ | refine wS ?_ | refine wP ?_ | refine wJ ?_ | refine wX ?_ | refine wY ?_ | refine wZ ?_ | refine wU ?_) | refine evDone ?_ | ((fail_if_success with_reducible show AW _ _ _ _ _); show AW _ _ _ _ _))
    clear hF
    try (show AW _ _ _ _ _)
    refine AW.ret (retI rfl ?_)
    simp [h3, a82_res, resOk, resP, resV, ARes.op, R2s, R2, R1s, R1, closeOk, closeV]
  · have h3 := h2 h0
    have hF := And.intro (h0) (h3)
    repeat (first | ((with_reducible show AW _ _ _ _ _); first | refine AW.seq ?_ | refine AW.block ?_ | refine AW.reg ?_ | refine AW.draw ?_ | (refine AW.condT ?_ ?_ ?_; (focus (simp [hF]; done)); (focus (simp [hF]; done))) | (refine AW.condF ?_ ?_ ?_; (focus (simp [hF]; done)); (focus (simp [hF]; done))) | (refine AW.skip ?_; show AW _ _ _ _ _)) | refine wD1 ?_ | refine wD2 ?_ | refine wE1 ?_ | refine wE2 ?_ | (refine wE3 ?_; intro _) | (refine wE4 ?_; intro _) | refine wN ?_ | ((with_reducible show evIs _ (_ :: _) _ _); first | refine wQ ?_ | refine wF ?_ | refine wG ?_ | refine wT ?_ | refine wM ?_ | refine wS ?_ | refine wP ?_ | refine wJ ?_ | refine wX ?_ | refine wY ?_ | refine wZ ?_ | refine wU ?_) | refine evDone ?_ | ((fail_if_success with_reducible show AW _ _ _ _ _); show AW _ _ _ _ _))
    clear hF
    try (show AW _ _ _ _ _)
    refine AW.ret (retI rfl ?_)
    simp [h3, a82_res, resOk, resP, resV, ARes.op, R2s, R2, R1s, R1, closeOk, closeV]
theorem wu {e : Int} {n : Nat} (he : e = n) (h : n < 18446744073709551616) : IntKind.u64.wrap e = n := by
  subst he
  simp [IntKind.wrap, IntKind.bits, IntKind.signed]; omega
theorem lowF (x : Nat) (h : x < 18446744073709551616) : IntKind.u64.wrap (((x % 2 ^ IntKind.u64.bits &&& 4294967295 % 2 ^ IntKind.u64.bits : Nat)) : Int) = ((x % 4294967296 : Nat) : Int) := by
  have h1 : x % 2 ^ IntKind.u64.bits = x := Nat.mod_eq_of_lt h
  have h2 : (4294967295 % 2 ^ IntKind.u64.bits : Nat) = 2 ^ 32 - 1 := by decide
  rw [h1, h2, Nat.and_two_pow_sub_one_eq_mod]
  exact wu rfl (by omega)
theorem highF (x : Nat) : Int.fdiv (x : Int) (2 ^ min 32 IntKind.u64.bits) = ((x / 4294967296 : Nat) : Int) := by
  rw [show (2 : Int) ^ min 32 IntKind.u64.bits = ((4294967296 : Nat) : Int) by decide]
  exact (Int.ofNat_fdiv x 4294967296).symm
theorem f81 (x y : Nat) (hx : x < 18446744073709551616) (hy : y < 18446744073709551616) : ACall Tryd.prog 81 [.int .u64 x, .int .u64 y] (· = .tup [.int .u64 (hiF x y), .int .u64 ((x * y % 18446744073709551616 : Nat) : Int)]) := by
  have hhi : hiF x y = x * y / 18446744073709551616 := hiF_eq x y
  have hmul : x * y ≤ 18446744073709551615 * 18446744073709551615 := Nat.mul_le_mul (by omega) (by omega)
  have hlo : IntKind.u64.wrap ((x : Int) * (y : Int)) = ((x * y % 18446744073709551616 : Nat) : Int) := by
    rw [← Int.natCast_mul]
    generalize x * y = p
    simp [IntKind.wrap, IntKind.bits, IntKind.signed]
  have hd : hiF x y = (x / 4294967296) * (y / 4294967296) + ((x / 4294967296) * (y % 4294967296) + ((x % 4294967296) * (y % 4294967296)) / 4294967296) / 4294967296 + (((x / 4294967296) * (y % 4294967296) + ((x % 4294967296) * (y % 4294967296)) / 4294967296) % 4294967296 + (x % 4294967296) * (y / 4294967296)) / 4294967296 := rfl
  have hx0 := lowF x hx
  have hy0 := lowF y hy
  have hx1 := highF x
  have hy1 := highF y
  obtain ⟨x0, e1⟩ : ∃ x0, x0 = x % 4294967296 := ⟨_, rfl⟩
  obtain ⟨y0, e2⟩ : ∃ y0, y0 = y % 4294967296 := ⟨_, rfl⟩
  obtain ⟨x1, e3⟩ : ∃ x1, x1 = x / 4294967296 := ⟨_, rfl⟩
  obtain ⟨y1, e4⟩ : ∃ y1, y1 = y / 4294967296 := ⟨_, rfl⟩
  rw [← e1, ← e2, ← e3, ← e4] at hd
  rw [← e1] at hx0
  rw [← e2] at hy0
  rw [← e3] at hx1
  rw [← e4] at hy1
  have bD : x0 * y0 ≤ 4294967295 * 4294967295 := Nat.mul_le_mul (by omega) (by omega)
  have bB : x1 * y0 ≤ 4294967295 * 4294967295 := Nat.mul_le_mul (by omega) (by omega)
  have bC : x0 * y1 ≤ 4294967295 * 4294967295 := Nat.mul_le_mul (by omega) (by omega)
  have bA : x1 * y1 ≤ 4294967295 * 4294967295 := Nat.mul_le_mul (by omega) (by omega)
  have hD : IntKind.u64.wrap ((x0 : Int) * (y0 : Int)) = ((x0 * y0 : Nat) : Int) := wu (Int.natCast_mul _ _).symm (by omega)
  have hB : IntKind.u64.wrap ((x1 : Int) * (y0 : Int)) = ((x1 * y0 : Nat) : Int) := wu (Int.natCast_mul _ _).symm (by omega)
  have hC : IntKind.u64.wrap ((x0 : Int) * (y1 : Int)) = ((x0 * y1 : Nat) : Int) := wu (Int.natCast_mul _ _).symm (by omega)
  have hA : IntKind.u64.wrap ((x1 : Int) * (y1 : Int)) = ((x1 * y1 : Nat) : Int) := wu (Int.natCast_mul _ _).symm (by omega)
  generalize x0 * y0 = D at *
  generalize x1 * y0 = B at *
  generalize x0 * y1 = C at *
  generalize x1 * y1 = A at *
  have hD1 := highF D
  obtain ⟨D1, e5⟩ : ∃ D1, D1 = D / 4294967296 := ⟨_, rfl⟩
  rw [← e5] at hD1 hd
  obtain ⟨t, e6⟩ : ∃ t, t = B + D1 := ⟨_, rfl⟩
  rw [← e6] at hd
  have ht : IntKind.u64.wrap ((B : Int) + (D1 : Int)) = (t : Int) := wu (by omega) (by omega)
  have ht0 := lowF t (by omega)
  have ht1 := highF t
  obtain ⟨t0, e7⟩ : ∃ t0, t0 = t % 4294967296 := ⟨_, rfl⟩
  obtain ⟨t1, e8⟩ : ∃ t1, t1 = t / 4294967296 := ⟨_, rfl⟩
  rw [← e7] at ht0 hd
  rw [← e8] at ht1 hd
  obtain ⟨u, e9⟩ : ∃ u, u = t0 + C := ⟨_, rfl⟩
  rw [← e9] at hd
  have hu : IntKind.u64.wrap ((t0 : Int) + (C : Int)) = (u : Int) := wu (by omega) (by omega)
  have hu1 := highF u
  obtain ⟨u1, e10⟩ : ∃ u1, u1 = u / 4294967296 := ⟨_, rfl⟩
  rw [← e10] at hu1 hd
  obtain ⟨v, e11⟩ : ∃ v, v = A + t1 := ⟨_, rfl⟩
  rw [← e11] at hd
  have hv : IntKind.u64.wrap ((A : Int) + (t1 : Int)) = (v : Int) := wu (by omega) (by omega)
  have hh : IntKind.u64.wrap ((v : Int) + (u1 : Int)) = (hiF x y : Int) := wu (by omega) (by omega)
  refine a81_of (by simp) ?_
  have hF := And.intro (hx0) (And.intro (hy0) (And.intro (hx1) (And.intro (hy1) (And.intro (hD) (And.intro (hB) (And.intro (hC) (And.intro (hA) (And.intro (hD1) (And.intro (ht) (And.intro (ht0) (And.intro (ht1) (And.intro (hu) (And.intro (hu1) (And.intro (hv) (And.intro (hh) (hlo))))))))))))))))
  repeat (first | ((with_reducible show AW _ _ _ _ _); first | refine AW.seq ?_ | refine AW.block ?_ | refine AW.reg ?_ | refine AW.draw ?_ | (refine AW.condT ?_ ?_ ?_; (focus (simp [hF]; done)); (focus (simp [hF]; done))) | (refine AW.condF ?_ ?_ ?_; (focus (simp [hF]; done)); (focus (simp [hF]; done))) | (refine AW.skip ?_; show AW _ _ _ _ _)) | refine wD1 ?_ | refine wD2 ?_ | refine wE1 ?_ | refine wE2 ?_ | (refine wE3 ?_; intro _) | (refine wE4 ?_; intro _) | refine wN ?_ | ((with_reducible show evIs _ (_ :: _) _ _); first | refine wQ ?_ | refine wF ?_ | refine wG ?_ | refine wT ?_ | refine wM ?_ | refine wS ?_ | refine wP ?_ | refine wJ ?_ | refine wX ?_ | refine wY ?_ | refine wZ ?_ | refine wU ?_) | refine evDone ?_ | ((fail_if_success with_reducible show AW _ _ _ _ _); show AW _ _ _ _ _))
  clear hF
  try (show AW _ _ _ _ _)
  refine AW.ret (retI rfl ?_)
  simp [hx0, hy0, hx1, hy1, hD, hB, hC, hA, hD1, ht, ht0, ht1, hu, hu1, hv, hh, hlo, a81_res, resOk, resP, resV, ARes.op, R2s, R2, R1s, R1, closeOk, closeV]
end Go.Proofs.YtcccedmhlennmaaDoor
