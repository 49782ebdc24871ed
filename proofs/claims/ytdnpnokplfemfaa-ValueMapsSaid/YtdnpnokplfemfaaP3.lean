/- Contracts of chapter 2's functions, seventeenth part: the examples. -/
import Derived.Test.YtdnpnokplfemfaaS6
import Derived.Test.YtdnpnokplfemfaaP2
import Derived.Test.YtdnpnokplfemfaaS3
import Derived.Test.YtdnpnokplfemfaaAL

set_option linter.unusedSimpArgs false
set_option linter.unusedVariables false
set_option maxHeartbeats 8000000
namespace Go.Proofs.Ytdnpnokplfemfaa
open Go Go.Amb Go.IntWalk

theorem bl (a b : ByteArray) : Op.bytesLess a.toList b.toList = Op.bytesLess a.data.toList b.data.toList := by rw [toList_data, toList_data]
theorem works : ACall Try.prog 12 [] (· = .bool true) := by
  have c1 : cmpS ⟨#[97]⟩ ⟨#[98]⟩ < 0 := by decide
  have c2 : ¬ (⟨#[98]⟩ : ByteArray) = ⟨#[97]⟩ := by decide
  have h29 : ACall Try.prog 29 [.sl .fro [.str ⟨#[98]⟩, .str ⟨#[97]⟩], .sl .fro [.agg [.int .i64 2, .int .i64 1, .str ⟨#[]⟩, .sl .fro [], .sl .fro []], .agg [.int .i64 2, .int .i64 2, .str ⟨#[]⟩, .sl .fro [], .sl .fro []]]] (· = .tup [.agg [.int .i64 5, .int .i64 0, .str ⟨#[]⟩, .sl (.own 5) [.agg [.int .i64 2, .int .i64 2, .str ⟨#[]⟩, .sl .fro [], .sl .fro []], .agg [.int .i64 2, .int .i64 1, .str ⟨#[]⟩, .sl .fro [], .sl .fro []]], .sl (.own 1) [.str ⟨#[97]⟩, .str ⟨#[98]⟩]], .int .i64 0]) := f29g _ _ c1 c2 (by decide) (by decide)
  have h29e : ACall Try.prog 29 [.sl .fro [.str ⟨#[97]⟩, .str ⟨#[97]⟩], .sl .fro [.agg [.int .i64 2, .int .i64 1, .str ⟨#[]⟩, .sl .fro [], .sl .fro []], .agg [.int .i64 2, .int .i64 2, .str ⟨#[]⟩, .sl .fro [], .sl .fro []]]] (· = .tup [.agg [.int .i64 0, .int .i64 0, .str ⟨#[]⟩, .sl .fro [], .sl .fro []], .int .i64 9]) := f29e _ _ rfl
  have h371 := f37 1
  have h372 := f37 2
  have h375 := f37 5
  have h379 := f37 9
  have h33x := f33t ⟨#[120]⟩
  have h330 := f33t ⟨#[]⟩
  have h50 : ACall Try.prog 50 [.agg [.int .i64 5, .int .i64 0, .str ⟨#[]⟩, .sl .fro [.agg [.int .i64 2, .int .i64 2, .str ⟨#[]⟩, .sl .fro [], .sl .fro []], .agg [.int .i64 2, .int .i64 1, .str ⟨#[]⟩, .sl .fro [], .sl .fro []]], .sl .fro [.str ⟨#[97]⟩, .str ⟨#[98]⟩]], .str ⟨#[97]⟩] (· = .tup [.agg [.int .i64 2, .int .i64 2, .str ⟨#[]⟩, .sl .fro [], .sl .fro []], .bool true]) := by
    have hW : wfV true (.mk 5 0 ⟨#[]⟩ [.mk 2 2 ⟨#[]⟩ [] [], .mk 2 1 ⟨#[]⟩ [] []] [⟨#[97]⟩, ⟨#[98]⟩]) = true := by kernel_rfl
    have h := f50y [.mk 2 2 ⟨#[]⟩ [] [], .mk 2 1 ⟨#[]⟩ [] []] [⟨#[97]⟩, ⟨#[98]⟩] ⟨#[97]⟩ ⟨by simp, by simp, ⟨by simp, by simp, trivial⟩, ⟨by simp, by simp, trivial⟩, trivial⟩ hW (by simp)
    have hp : posK [⟨#[97]⟩, ⟨#[98]⟩] ⟨#[97]⟩ = 0 := by kernel_rfl
    simp only [getR, hp] at h
    simpa [Val.av, avs] using h
  have h31 : ACall Try.prog 31 [.sl .fro [.agg [.int .i64 2, .int .i64 5, .str ⟨#[]⟩, .sl .fro [], .sl .fro []], .agg [.int .i64 3, .int .i64 0, .str ⟨#[120]⟩, .sl .fro [], .sl .fro []]]] (· = .agg [.int .i64 4, .int .i64 0, .str ⟨#[]⟩, .sl .fro [.agg [.int .i64 2, .int .i64 5, .str ⟨#[]⟩, .sl .fro [], .sl .fro []], .agg [.int .i64 3, .int .i64 0, .str ⟨#[120]⟩, .sl .fro [], .sl .fro []]], .sl .fro []]) := f31 [.mk 2 5 ⟨#[]⟩ [] [], .mk 3 0 ⟨#[120]⟩ [] []] ⟨⟨by simp, by simp, trivial⟩, ⟨by simp, by simp, trivial⟩, trivial⟩ (by simp)
  have h17 := f17l
  simp only [byL, by8, List.map_cons, List.map_nil] at h17
  have h24 : ACall Try.prog 24 [.agg [.int .i64 2, .int .i64 2, .str ⟨#[]⟩, .sl .fro [], .sl .fro []], .agg [.int .i64 2, .int .i64 2, .str ⟨#[]⟩, .sl .fro [], .sl .fro []]] (· = .bool true) := by
    have h := f24 (.mk 2 2 ⟨#[]⟩ [] []) (.mk 2 2 ⟨#[]⟩ [] []) ⟨by simp, by simp, trivial⟩ ⟨by simp, by simp, trivial⟩
    rw [sameV_refl] at h
    exact h
  have h13 := f13w
  have hnb : numsToBytes [.int .u8 8, .int .u8 4, .int .u8 4, .int .u8 10, .int .u8 6, .int .u8 2, .int .u8 120] = ⟨#[8, 4, 4, 10, 6, 2, 120]⟩ := by kernel_rfl
  have hu8 : ∀ n, isU8 (.int .u8 n) = true := fun _ => rfl
  refine a12_of (by simp) ?_
  repeat refine AW.seq ?_
  refine AW.reg ?_
  have hF := True.intro
  repeat ((with_reducible show evIs _ (_ :: _) _ _); first | refine wQ ?_ | refine wF ?_ | refine wG ?_ | refine wT ?_ | refine wM ?_ | refine wS ?_ | refine wP ?_)
  clear hF
  repeat refine evDone ?_
  try (show AW _ _ _ _ _)
  repeat refine AW.seq ?_
  refine AW.reg ?_
  have hF := True.intro
  repeat ((with_reducible show evIs _ (_ :: _) _ _); first | refine wQ ?_ | refine wF ?_ | refine wG ?_ | refine wT ?_ | refine wM ?_ | refine wS ?_ | refine wP ?_)
  clear hF
  repeat refine evDone ?_
  try (show AW _ _ _ _ _)
  have hF := True.intro
  refine wC (hA := h371) ?_
  clear hF
  have hF := True.intro
  repeat ((with_reducible show evIs _ (_ :: _) _ _); first | refine wQ ?_ | refine wF ?_ | refine wG ?_ | refine wT ?_ | refine wM ?_ | refine wS ?_ | refine wP ?_)
  clear hF
  repeat refine evDone ?_
  try (show AW _ _ _ _ _)
  have hF := True.intro
  refine wC (hA := h372) ?_
  clear hF
  have hF := True.intro
  repeat ((with_reducible show evIs _ (_ :: _) _ _); first | refine wQ ?_ | refine wF ?_ | refine wG ?_ | refine wT ?_ | refine wM ?_ | refine wS ?_ | refine wP ?_)
  clear hF
  repeat refine evDone ?_
  try (show AW _ _ _ _ _)
  have hF := True.intro
  refine wC (hA := h29) ?_
  clear hF
  have hF := True.intro
  repeat ((with_reducible show evIs _ (_ :: _) _ _); first | refine wQ ?_ | refine wF ?_ | refine wG ?_ | refine wT ?_ | refine wM ?_ | refine wS ?_ | refine wP ?_)
  clear hF
  repeat refine evDone ?_
  try (show AW _ _ _ _ _)
  repeat refine AW.seq ?_
  refine AW.reg ?_
  have hF := True.intro
  repeat ((with_reducible show evIs _ (_ :: _) _ _); first | refine wQ ?_ | refine wF ?_ | refine wG ?_ | refine wT ?_ | refine wM ?_ | refine wS ?_ | refine wP ?_)
  clear hF
  repeat refine evDone ?_
  try (show AW _ _ _ _ _)
  have hF := True.intro
  refine wC (hA := h371) ?_
  clear hF
  have hF := True.intro
  repeat ((with_reducible show evIs _ (_ :: _) _ _); first | refine wQ ?_ | refine wF ?_ | refine wG ?_ | refine wT ?_ | refine wM ?_ | refine wS ?_ | refine wP ?_)
  clear hF
  repeat refine evDone ?_
  try (show AW _ _ _ _ _)
  have hF := True.intro
  refine wC (hA := h372) ?_
  clear hF
  have hF := True.intro
  repeat ((with_reducible show evIs _ (_ :: _) _ _); first | refine wQ ?_ | refine wF ?_ | refine wG ?_ | refine wT ?_ | refine wM ?_ | refine wS ?_ | refine wP ?_)
  clear hF
  repeat refine evDone ?_
  try (show AW _ _ _ _ _)
  have hF := True.intro
  refine wC (hA := h29e) ?_
  clear hF
  have hF := True.intro
  repeat ((with_reducible show evIs _ (_ :: _) _ _); first | refine wQ ?_ | refine wF ?_ | refine wG ?_ | refine wT ?_ | refine wM ?_ | refine wS ?_ | refine wP ?_)
  clear hF
  repeat refine evDone ?_
  try (show AW _ _ _ _ _)
  repeat refine AW.seq ?_
  refine AW.reg ?_
  have hF := True.intro
  repeat ((with_reducible show evIs _ (_ :: _) _ _); first | refine wQ ?_ | refine wF ?_ | refine wG ?_ | refine wT ?_ | refine wM ?_ | refine wS ?_ | refine wP ?_)
  clear hF
  repeat refine evDone ?_
  try (show AW _ _ _ _ _)
  have hF := True.intro
  refine wC (hA := h50) ?_
  clear hF
  have hF := True.intro
  repeat ((with_reducible show evIs _ (_ :: _) _ _); first | refine wQ ?_ | refine wF ?_ | refine wG ?_ | refine wT ?_ | refine wM ?_ | refine wS ?_ | refine wP ?_)
  clear hF
  repeat refine evDone ?_
  try (show AW _ _ _ _ _)
  repeat refine AW.seq ?_
  refine AW.reg ?_
  have hF := True.intro
  repeat ((with_reducible show evIs _ (_ :: _) _ _); first | refine wQ ?_ | refine wF ?_ | refine wG ?_ | refine wT ?_ | refine wM ?_ | refine wS ?_ | refine wP ?_)
  clear hF
  repeat refine evDone ?_
  try (show AW _ _ _ _ _)
  have hF := True.intro
  refine wC (hA := h375) ?_
  clear hF
  have hF := True.intro
  repeat ((with_reducible show evIs _ (_ :: _) _ _); first | refine wQ ?_ | refine wF ?_ | refine wG ?_ | refine wT ?_ | refine wM ?_ | refine wS ?_ | refine wP ?_)
  clear hF
  repeat refine evDone ?_
  try (show AW _ _ _ _ _)
  have hF := True.intro
  refine wC (hA := h33x) ?_
  clear hF
  have hF := True.intro
  repeat ((with_reducible show evIs _ (_ :: _) _ _); first | refine wQ ?_ | refine wF ?_ | refine wG ?_ | refine wT ?_ | refine wM ?_ | refine wS ?_ | refine wP ?_)
  clear hF
  repeat refine evDone ?_
  try (show AW _ _ _ _ _)
  have hF := True.intro
  refine wC (hA := h31) ?_
  clear hF
  have hF := True.intro
  repeat ((with_reducible show evIs _ (_ :: _) _ _); first | refine wQ ?_ | refine wF ?_ | refine wG ?_ | refine wT ?_ | refine wM ?_ | refine wS ?_ | refine wP ?_)
  clear hF
  repeat refine evDone ?_
  try (show AW _ _ _ _ _)
  have hF := True.intro
  refine wC (hA := h17) ?_
  clear hF
  have hF := True.intro
  repeat ((with_reducible show evIs _ (_ :: _) _ _); first | refine wQ ?_ | refine wF ?_ | refine wG ?_ | refine wT ?_ | refine wM ?_ | refine wS ?_ | refine wP ?_)
  clear hF
  repeat refine evDone ?_
  try (show AW _ _ _ _ _)
  repeat refine AW.seq ?_
  refine AW.draw ?_
  have hF := True.intro
  repeat (first | refine wD1 ?_ | refine wD2 ?_ | refine wE1 ?_ | refine wE2 ?_ | (refine wE3 ?_; intro _) | (refine wE4 ?_; intro _) | refine wN ?_ | ((with_reducible show evIs _ (_ :: _) _ _); first | refine wQ ?_ | refine wF ?_ | refine wG ?_ | refine wT ?_ | refine wM ?_ | refine wS ?_ | refine wP ?_ | refine wJ ?_ | refine wX ?_ | refine wY ?_ | refine wZ ?_ | refine wU ?_ | refine wCp ?_ | refine wCp0 ?_ | refine wApz ?_ | (refine wCap ?_; intro qc hqc)))
  clear hF
  repeat refine evDone ?_
  try (show AW _ _ _ _ _)
  have hF := True.intro
  refine wC (hA := h372) ?_
  clear hF
  have hF := True.intro
  repeat (first | refine wD1 ?_ | refine wD2 ?_ | refine wE1 ?_ | refine wE2 ?_ | (refine wE3 ?_; intro _) | (refine wE4 ?_; intro _) | refine wN ?_ | ((with_reducible show evIs _ (_ :: _) _ _); first | refine wQ ?_ | refine wF ?_ | refine wG ?_ | refine wT ?_ | refine wM ?_ | refine wS ?_ | refine wP ?_ | refine wJ ?_ | refine wX ?_ | refine wY ?_ | refine wZ ?_ | refine wU ?_ | refine wCp ?_ | refine wCp0 ?_ | refine wApz ?_ | (refine wCap ?_; intro qc hqc)))
  clear hF
  repeat refine evDone ?_
  try (show AW _ _ _ _ _)
  have hF := True.intro
  refine wC (hA := h24) ?_
  clear hF
  have hF := And.intro (hnb) (hu8)
  repeat (first | refine wD1 ?_ | refine wD2 ?_ | refine wE1 ?_ | refine wE2 ?_ | (refine wE3 ?_; intro _) | (refine wE4 ?_; intro _) | refine wN ?_ | ((with_reducible show evIs _ (_ :: _) _ _); first | refine wQ ?_ | refine wF ?_ | refine wG ?_ | refine wT ?_ | refine wM ?_ | refine wS ?_ | refine wP ?_ | refine wJ ?_ | refine wX ?_ | refine wY ?_ | refine wZ ?_ | refine wU ?_ | refine wCp ?_ | refine wCp0 ?_ | refine wApz ?_ | (refine wCap ?_; intro qc hqc)))
  clear hF
  repeat refine evDone ?_
  try (show AW _ _ _ _ _)
  have hF := True.intro
  refine wC (hA := h379) ?_
  clear hF
  have hF := True.intro
  repeat (first | refine wD1 ?_ | refine wD2 ?_ | refine wE1 ?_ | refine wE2 ?_ | (refine wE3 ?_; intro _) | (refine wE4 ?_; intro _) | refine wN ?_ | ((with_reducible show evIs _ (_ :: _) _ _); first | refine wQ ?_ | refine wF ?_ | refine wG ?_ | refine wT ?_ | refine wM ?_ | refine wS ?_ | refine wP ?_ | refine wJ ?_ | refine wX ?_ | refine wY ?_ | refine wZ ?_ | refine wU ?_ | refine wCp ?_ | refine wCp0 ?_ | refine wApz ?_ | (refine wCap ?_; intro qc hqc)))
  clear hF
  repeat refine evDone ?_
  try (show AW _ _ _ _ _)
  have hF := True.intro
  refine wC (hA := h330) ?_
  clear hF
  have hF := True.intro
  repeat (first | refine wD1 ?_ | refine wD2 ?_ | refine wE1 ?_ | refine wE2 ?_ | (refine wE3 ?_; intro _) | (refine wE4 ?_; intro _) | refine wN ?_ | ((with_reducible show evIs _ (_ :: _) _ _); first | refine wQ ?_ | refine wF ?_ | refine wG ?_ | refine wT ?_ | refine wM ?_ | refine wS ?_ | refine wP ?_ | refine wJ ?_ | refine wX ?_ | refine wY ?_ | refine wZ ?_ | refine wU ?_ | refine wCp ?_ | refine wCp0 ?_ | refine wApz ?_ | (refine wCap ?_; intro qc hqc)))
  clear hF
  repeat refine evDone ?_
  try (show AW _ _ _ _ _)
  have hF := True.intro
  refine wC (hA := h13) ?_
  clear hF
  have hF := True.intro
  repeat (first | refine wD1 ?_ | refine wD2 ?_ | refine wE1 ?_ | refine wE2 ?_ | (refine wE3 ?_; intro _) | (refine wE4 ?_; intro _) | refine wN ?_ | ((with_reducible show evIs _ (_ :: _) _ _); first | refine wQ ?_ | refine wF ?_ | refine wG ?_ | refine wT ?_ | refine wM ?_ | refine wS ?_ | refine wP ?_ | refine wJ ?_ | refine wX ?_ | refine wY ?_ | refine wZ ?_ | refine wU ?_ | refine wCp ?_ | refine wCp0 ?_ | refine wApz ?_ | (refine wCap ?_; intro qc hqc)))
  clear hF
  repeat refine evDone ?_
  try (show AW _ _ _ _ _)
  refine AW.ret (retI rfl ?_)
  simp [a12_res, resOk, resP, resV, ARes.op, R2s, R2, R1s, R1, closeOk, closeV]
end Go.Proofs.Ytdnpnokplfemfaa

set_option linter.unusedSimpArgs false
set_option linter.unusedVariables false
set_option maxHeartbeats 8000000
namespace Go.Proofs.Ytdnpnokplfemfaa
open Go Go.Amb Go.IntWalk

theorem roots3 (o a b N : Nat) (ho : o ≤ 15) (ho1 : 2 ≤ o) (ha : a < N) (hb : b < N) (hab : a ≠ b) (ha5 : 16 ≤ a) (hb5 : 16 ≤ b) :
    (a = b) = False ∧ (b = a) = False ∧ (∀ q, (a = N + q) = False) ∧ (∀ q, (b = N + q) = False) ∧ (∀ q, (N + q = a) = False) ∧ (∀ q, (N + q = b) = False) ∧ (a = 0) = False ∧ (a = 1) = False ∧ (a = o) = False ∧ (b = 0) = False ∧ (b = 1) = False ∧ (b = o) = False ∧
    (0 = a) = False ∧ (1 = a) = False ∧ (o = a) = False ∧ (0 = b) = False ∧ (1 = b) = False ∧ (o = b) = False ∧ (∀ q, (1 = N + q) = False) ∧ (∀ q, (o = N + q) = False) ∧ (∀ q, (N + q = 1) = False) ∧ (∀ q, (N + q = o) = False) ∧
    (∀ q, a < N + q) ∧ (∀ q, b < N + q) ∧ (∀ q, 0 < N + q) ∧ (∀ q, 1 < N + q) ∧ (∀ q, o < N + q) ∧ 0 < N ∧ 1 < N ∧ o < N ∧ a < N ∧ b < N ∧ (∀ q, (N + q < N) = False) := by
  refine ⟨?_, ?_, ?_, ?_, ?_, ?_, ?_, ?_, ?_, ?_, ?_, ?_, ?_, ?_, ?_, ?_, ?_, ?_, ?_, ?_, ?_, ?_, ?_, ?_, ?_, ?_, ?_, ?_, ?_, ?_, ?_, ?_, ?_⟩ <;> first | exact eq_false (by omega) | exact fun q => eq_false (by omega) | exact fun q => by omega | omega
theorem f55n (k n : Int) (t : ByteArray) (is : List Val) (ks : List ByteArray) (p : ByteArray) (hok : (Val.mk k n t is ks).okv) (h : ¬ (k = 5 ∧ wfV true (.mk k n t is ks) = true)) : ACall Try.prog 55 [.agg [.int .i64 k, .int .i64 n, .str t, .sl .fro (avs is), .sl .fro (ks.map .str)], .str p] (· = .tup [.agg [.int .i64 0, .int .i64 0, .str ⟨#[]⟩, .sl .fro [], .sl .fro []], .int .i64 12]) := by
  refine a55_of (by simp) ?_
  by_cases hk : k = 5
  · have hw : wfV true (.mk k n t is ks) = false := by simpa [hk] using h
    have h15 := f15 _ hok
    rw [hw] at h15
    simp only [Val.av] at h15
    subst hk
    have hF := True.intro
    repeat (first | ((with_reducible show AW _ _ _ _ _); first | refine AW.seq ?_ | refine AW.block ?_ | refine AW.reg ?_ | refine AW.draw ?_ | refine wct ?_ | refine wcf ?_ | (refine AW.skip ?_; show AW _ _ _ _ _)) | refine wD1 ?_ | refine wD2 ?_ | refine wE1 ?_ | refine wE2 ?_ | (refine wE3 ?_; intro _) | (refine wE4 ?_; intro _) | refine wN ?_ | ((with_reducible show evIs _ (_ :: _) _ _); first | refine wQ ?_ | refine wF ?_ | refine wG ?_ | refine wT ?_ | refine wM ?_ | refine wS ?_ | refine wP ?_ | refine wJ ?_ | refine wX ?_ | refine wY ?_ | refine wZ ?_ | refine wU ?_ | refine wCp ?_ | refine wCp0 ?_ | refine wApz ?_ | (refine wCap ?_; intro qc hqc)) | refine evDone ?_ | ((fail_if_success with_reducible show AW _ _ _ _ _); show AW _ _ _ _ _))
    clear hF
    try (show AW _ _ _ _ _)
    have hF := True.intro
    refine wC (hA := h15) ?_
    clear hF
    have hF := True.intro
    repeat (first | ((with_reducible show AW _ _ _ _ _); first | refine AW.seq ?_ | refine AW.block ?_ | refine AW.reg ?_ | refine AW.draw ?_ | refine wct ?_ | refine wcf ?_ | (refine AW.skip ?_; show AW _ _ _ _ _)) | refine wD1 ?_ | refine wD2 ?_ | refine wE1 ?_ | refine wE2 ?_ | (refine wE3 ?_; intro _) | (refine wE4 ?_; intro _) | refine wN ?_ | ((with_reducible show evIs _ (_ :: _) _ _); first | refine wQ ?_ | refine wF ?_ | refine wG ?_ | refine wT ?_ | refine wM ?_ | refine wS ?_ | refine wP ?_ | refine wJ ?_ | refine wX ?_ | refine wY ?_ | refine wZ ?_ | refine wU ?_ | refine wCp ?_ | refine wCp0 ?_ | refine wApz ?_ | (refine wCap ?_; intro qc hqc)) | refine evDone ?_ | ((fail_if_success with_reducible show AW _ _ _ _ _); show AW _ _ _ _ _))
    clear hF
    try (show AW _ _ _ _ _)
    refine AW.ret (retI rfl ?_)
    simp [a55_res, resOk, resP, resV, ARes.op, R2s, R2, R1s, R1, closeOk, closeV]
  · have hF := hk
    repeat (first | ((with_reducible show AW _ _ _ _ _); first | refine AW.seq ?_ | refine AW.block ?_ | refine AW.reg ?_ | refine AW.draw ?_ | refine wct ?_ | refine wcf ?_ | (refine AW.skip ?_; show AW _ _ _ _ _)) | refine wD1 ?_ | refine wD2 ?_ | refine wE1 ?_ | refine wE2 ?_ | (refine wE3 ?_; intro _) | (refine wE4 ?_; intro _) | refine wN ?_ | ((with_reducible show evIs _ (_ :: _) _ _); first | refine wQ ?_ | refine wF ?_ | refine wG ?_ | refine wT ?_ | refine wM ?_ | refine wS ?_ | refine wP ?_ | refine wJ ?_ | refine wX ?_ | refine wY ?_ | refine wZ ?_ | refine wU ?_ | refine wCp ?_ | refine wCp0 ?_ | refine wApz ?_ | (refine wCap ?_; intro qc hqc)) | refine evDone ?_ | ((fail_if_success with_reducible show AW _ _ _ _ _); show AW _ _ _ _ _))
    clear hF
    try (show AW _ _ _ _ _)
    refine AW.ret (retI rfl ?_)
    simp [a55_res, resOk, resP, resV, ARes.op, R2s, R2, R1s, R1, closeOk, closeV]
/-- What both Drops give at a map. -/
abbrev dropR (is : List Val) (ks : List ByteArray) (p : ByteArray) : AV := if ks[posK ks p]? = some p then .tup [.agg [.int .i64 5, .int .i64 0, .str ⟨#[]⟩, .sl (.own 5) (avs (delL is (posK ks p))), .sl (.own 1) ((delL ks (posK ks p)).map .str)], .int .i64 0] else .tup [.agg [.int .i64 0, .int .i64 0, .str ⟨#[]⟩, .sl .fro [], .sl .fro []], .int .i64 15]
theorem f55y (is : List Val) (ks : List ByteArray) (p : ByteArray) (hok : (Val.mk 5 0 ⟨#[]⟩ is ks).okv) (hw : wfV true (.mk 5 0 ⟨#[]⟩ is ks) = true) (hb : is.length ≤ 1000000) : ACall Try.prog 55 [.agg [.int .i64 5, .int .i64 0, .str ⟨#[]⟩, .sl .fro (avs is), .sl .fro (ks.map .str)], .str p] (· = dropR is ks p) := by
  have h15 := f15 _ hok
  rw [hw] at h15
  simp only [Val.av] at h15
  obtain ⟨-, -, hlen, hr⟩ := wf_map hw
  obtain ⟨pos, hpos⟩ : ∃ pos, posK ks p = pos := ⟨_, rfl⟩
  have honly := fun h => only_at (p := p) hr (h := h)
  unfold dropR
  rw [hpos] at honly ⊢
  obtain ⟨f, hf⟩ : ∃ f : Nat, (if ks[pos]? = some p then 1 else 0) = f := ⟨_, rfl⟩
  refine a55_of (by simp) ?_
  have hF := True.intro
  repeat (first | ((with_reducible show AW _ _ _ _ _); first | refine AW.seq ?_ | refine AW.block ?_ | refine AW.reg ?_ | refine AW.draw ?_ | refine wct ?_ | refine wcf ?_ | (refine AW.skip ?_; show AW _ _ _ _ _)) | refine wD1 ?_ | refine wD2 ?_ | refine wE1 ?_ | refine wE2 ?_ | (refine wE3 ?_; intro _) | (refine wE4 ?_; intro _) | refine wN ?_ | ((with_reducible show evIs _ (_ :: _) _ _); first | refine wQ ?_ | refine wF ?_ | refine wG ?_ | refine wT ?_ | refine wM ?_ | refine wS ?_ | refine wP ?_ | refine wJ ?_ | refine wX ?_ | refine wY ?_ | refine wZ ?_ | refine wU ?_ | refine wCp ?_ | refine wCp0 ?_ | refine wApz ?_ | (refine wCap ?_; intro qc hqc)) | refine evDone ?_ | ((fail_if_success with_reducible show AW _ _ _ _ _); show AW _ _ _ _ _))
  clear hF
  try (show AW _ _ _ _ _)
  have hF := True.intro
  refine wC (hA := h15) ?_
  clear hF
  have hF := True.intro
  repeat (first | ((with_reducible show AW _ _ _ _ _); first | refine AW.seq ?_ | refine AW.block ?_ | refine AW.reg ?_ | refine AW.draw ?_ | refine wct ?_ | refine wcf ?_ | (refine AW.skip ?_; show AW _ _ _ _ _)) | refine wD1 ?_ | refine wD2 ?_ | refine wE1 ?_ | refine wE2 ?_ | (refine wE3 ?_; intro _) | (refine wE4 ?_; intro _) | refine wN ?_ | ((with_reducible show evIs _ (_ :: _) _ _); first | refine wQ ?_ | refine wF ?_ | refine wG ?_ | refine wT ?_ | refine wM ?_ | refine wS ?_ | refine wP ?_ | refine wJ ?_ | refine wX ?_ | refine wY ?_ | refine wZ ?_ | refine wU ?_ | refine wCp ?_ | refine wCp0 ?_ | refine wApz ?_ | (refine wCap ?_; intro qc hqc)) | refine evDone ?_ | ((fail_if_success with_reducible show AW _ _ _ _ _); show AW _ _ _ _ _))
  clear hF
  try (show AW _ _ _ _ _)
  refine AW.loop (fun g : Nat × Nat × Nat × Nat => g.1 ≤ is.length ∧ g.2.1 < g.2.2.2 ∧ g.2.2.1 < g.2.2.2 ∧ g.2.1 ≠ g.2.2.1 ∧ 16 ≤ g.2.1 ∧ 16 ≤ g.2.2.1) (fun g => mkS [(1, .str p), (2, .ptr 0 0 0), (4, .ptr 1 0 0), (5, .int .i64 0), (6, .ptr 15 0 0), (7, .int .i64 g.1)] [(0, ⟨5, true, [.agg [.int .i64 5, .int .i64 0, .str ⟨#[]⟩, .sl .fro (avs is), .sl .fro (ks.map .str)]]⟩), (1, ⟨5, true, [.agg [.int .i64 0, .int .i64 0, .str ⟨#[]⟩, .sl .ext [], .sl .ext []]]⟩), (15, ⟨5, true, [.agg [.int .i64 5, .int .i64 0, .str ⟨#[]⟩, .hdr g.2.1 0 (dL is pos f g.1).length, .hdr g.2.2.1 0 (dL is pos f g.1).length]]⟩), (g.2.1, ⟨5, false, avs (dL is pos f g.1)⟩), (g.2.2.1, ⟨1, false, (dL ks pos f g.1).map .str⟩)] g.2.2.2) (fun g => is.length - g.1) (0, 16, 17, 20) (by simp) ?_ ?_
  · simp only [dL_0]
    have hz0 : avs [] = [] := rfl
    refine Fit.mk _ _ _ (by simp [hz0, conv2, newEmp, convs_refl, convs, conv]) (by simp [hz0, heapFit, newEmp, conv2s, conv2, convs_refl, convs, conv]) (by intro q hq; first | (simp at hq; done) | (simp at hq; omega) | (simp at hq; simp; omega))
  rintro ⟨i, a, b, N⟩ ⟨hi, ha, hbb, hab, ha5, hb5⟩
  dsimp only at hi ha hbb hab ha5 hb5 ⊢
  have hN := roots3 15 a b N (by omega) (by omega) ha hbb hab ha5 hb5
  have hlz : (dL is pos f i).length ≤ i := dL_le
  have hlk : (dL ks pos f i).length = (dL is pos f i).length := dL_len hlen
  by_cases hlt : i < is.length
  · obtain ⟨y, hy⟩ : ∃ y, is[i]? = some y := ⟨_, List.getElem?_eq_getElem hlt⟩
    obtain ⟨kk, hkk⟩ : ∃ kk, ks[i]? = some kk := ⟨_, List.getElem?_eq_getElem (by omega)⟩
    have hel : elemAt (ks.map AV.str) i = .str kk := elem_map (f := AV.str) hkk
    have hely := elem_map (f := Val.av) hy
    rw [← vals_map] at hely
    obtain ⟨yk, yn, yt, yi, ys⟩ := y
    simp only [Val.av] at hely
    have hya : avs [Val.mk yk yn yt yi ys] = [.agg [.int .i64 yk, .int .i64 yn, .str yt, .sl .fro (avs yi), .sl .fro (ys.map .str)]] := by simp [avs, Val.av]
    have hltk : (i : Int) < ks.length := by omega
    have hlti : (i : Int) < is.length := by omega
    have hz : (0 : Int) ≤ i := by omega
    have hltk' : i < ks.length := by omega
    have hwi : IntKind.i64.wrap ((i : Int) + 1) = (i : Int) + 1 := i64_in _ ⟨by omega, by omega⟩
    by_cases hkp : kk = p
    · have hip : i = pos := honly i (by rw [hkk, hkp])
      have hfe : f = 1 := by rw [← hf, ← hip, hkk, hkp]; simp
      have hL2 : dL is pos f (i + 1) = dL is pos f i := by rw [hfe]; exact (dL_skip hip hy).symm
      have hM2 : dL ks pos f (i + 1) = dL ks pos f i := by rw [hfe]; exact (dL_skip hip hkk).symm
      subst hkp
      have hF := And.intro (hN) (And.intro (hel) (And.intro (hltk) (And.intro (hltk') (And.intro (hz) (hwi)))))
      repeat (first | ((with_reducible show AW _ _ _ _ _); first | refine AW.seq ?_ | refine AW.block ?_ | refine AW.reg ?_ | refine AW.draw ?_ | refine wct ?_ | refine wcf ?_ | (refine AW.skip ?_; show AW _ _ _ _ _)) | refine wD1 ?_ | refine wD2 ?_ | refine wE1 ?_ | refine wE2 ?_ | (refine wE3 ?_; intro _) | (refine wE4 ?_; intro _) | refine wN ?_ | ((with_reducible show evIs _ (_ :: _) _ _); first | refine wQ ?_ | refine wF ?_ | refine wG ?_ | refine wT ?_ | refine wM ?_ | refine wS ?_ | refine wP ?_ | refine wJ ?_ | refine wX ?_ | refine wY ?_ | refine wZ ?_ | refine wU ?_ | refine wCp ?_ | refine wCp0 ?_ | refine wApz ?_ | (refine wCap ?_; intro qc hqc)) | refine evDone ?_ | ((fail_if_success with_reducible show AW _ _ _ _ _); show AW _ _ _ _ _))
      clear hF
      try (show AW _ _ _ _ _)
      refine ⟨(i + 1, a, b, N + 200), ⟨by dsimp only; omega, by dsimp only; omega, by dsimp only; omega, hab, ha5, hb5⟩, by dsimp only; omega, ?_⟩
      dsimp only
      rw [hL2, hM2]
      generalize dL is pos f i = L at *
      generalize dL ks pos f i = M at *
      refine Fit.mk _ _ _ (by simp [hN, hwi, conv2, newEmp, convs_refl, convs, conv]) (by simp [hN, hwi, heapFit, newEmp, conv2s, conv2, convs_refl, convs, conv]) (by intro q hq; first | (simp at hq; done) | (simp at hq; omega) | (simp at hq; simp; omega))
    · have hno : ¬ (f = 1 ∧ i = pos) := by
        rintro ⟨h1, h2⟩
        rw [← hf, ← h2, hkk] at h1
        simp [hkp] at h1
      have hL2 : dL is pos f i ++ [.mk yk yn yt yi ys] = dL is pos f (i + 1) := dL_keep hno hy
      have hM2 : dL ks pos f i ++ [kk] = dL ks pos f (i + 1) := dL_keep hno hkk
      generalize dL is pos f i = L at *
      generalize dL ks pos f i = M at *
      have hb1 : (L.length + 1) * 16 ≤ 140737488355328 := by omega
      have hb2 : (L.length + 1) * 80 ≤ 140737488355328 := by omega
      have hb3 : L.length + 1 ≤ 9223372036854775807 := by omega
      have hF := And.intro (hN) (And.intro (hel) (And.intro (hely) (And.intro (hltk) (And.intro (hltk') (And.intro (hlti) (And.intro (hlt) (And.intro (hz) (And.intro (hkp) (And.intro (hb1) (And.intro (hb2) (And.intro (hb3) (And.intro (hlk) (hwi)))))))))))))
      repeat (first | ((with_reducible show AW _ _ _ _ _); first | refine AW.seq ?_ | refine AW.block ?_ | refine AW.reg ?_ | refine AW.draw ?_ | refine wct ?_ | refine wcf ?_ | (refine AW.skip ?_; show AW _ _ _ _ _)) | refine wD1 ?_ | refine wD2 ?_ | refine wE1 ?_ | refine wE2 ?_ | (refine wE3 ?_; intro _) | (refine wE4 ?_; intro _) | refine wN ?_ | ((with_reducible show evIs _ (_ :: _) _ _); first | refine wQ ?_ | refine wF ?_ | refine wG ?_ | refine wT ?_ | refine wM ?_ | refine wS ?_ | refine wP ?_ | refine wJ ?_ | refine wX ?_ | refine wY ?_ | refine wZ ?_ | refine wU ?_ | refine wCp ?_ | refine wCp0 ?_ | refine wApz ?_ | (refine wCap ?_; intro qc hqc)) | refine evDone ?_ | ((fail_if_success with_reducible show AW _ _ _ _ _); show AW _ _ _ _ _))
      clear hF
      try (show AW _ _ _ _ _)
      try refine evDone ?_
      refine ⟨(i + 1, N + 49, N + 38, N + 200), ⟨by dsimp only; omega, by dsimp only; omega, by dsimp only; omega, by dsimp only; omega, by dsimp only; omega, by dsimp only; omega⟩, by dsimp only; omega, ?_⟩
      dsimp only
      rw [← hL2, ← hM2]
      refine Fit.mk _ _ _ (by simp [hN, hwi, avs_append, hya, conv2, newEmp, convs_refl, convs, conv]) (by simp [hN, hwi, avs_append, hya, heapFit, newEmp, conv2s, conv2, convs_refl, convs, conv]) (by intro q hq; first | (simp at hq; done) | (simp at hq; omega) | (simp at hq; simp; omega))
  · have hie : i = is.length := by omega
    have hltk : ¬ (i : Int) < ks.length := by omega
    have hik : i = ks.length := by omega
    have hF := And.intro (hltk) (hN)
    repeat (first | ((with_reducible show AW _ _ _ _ _); first | refine AW.seq ?_ | refine AW.block ?_ | refine AW.reg ?_ | refine AW.draw ?_ | refine wct ?_ | refine wcf ?_ | (refine AW.skip ?_; show AW _ _ _ _ _)) | refine wD1 ?_ | refine wD2 ?_ | refine wE1 ?_ | refine wE2 ?_ | (refine wE3 ?_; intro _) | (refine wE4 ?_; intro _) | refine wN ?_ | ((with_reducible show evIs _ (_ :: _) _ _); first | refine wQ ?_ | refine wF ?_ | refine wG ?_ | refine wT ?_ | refine wM ?_ | refine wS ?_ | refine wP ?_ | refine wJ ?_ | refine wX ?_ | refine wY ?_ | refine wZ ?_ | refine wU ?_ | refine wCp ?_ | refine wCp0 ?_ | refine wApz ?_ | (refine wCap ?_; intro qc hqc)) | refine evDone ?_ | ((fail_if_success with_reducible show AW _ _ _ _ _); show AW _ _ _ _ _))
    clear hF
    try (show AW _ _ _ _ _)
    refine AW.exit ?_
    show AW _ _ _ _ _
    by_cases hfd : ks[pos]? = some p
    · have hfe : f = 1 := by rw [← hf, if_pos hfd]
      have hpe : pos < ks.length := (List.getElem?_eq_some_iff.1 hfd).1
      have hw1 : dL is pos f i = delL is pos := by rw [hie, hfe]; exact dL_end (by omega)
      have hw2 : dL ks pos f i = delL ks pos := by rw [hik, hfe]; exact dL_end hpe
      rw [hw1, hw2, if_pos hfd]
      have hl2 : (delL is pos).length = (delL ks pos).length := by rw [← hw1, ← hw2]; exact hlk.symm
      have hl3 : (delL ks pos).length < ks.length := by simp [delL]; omega
      generalize delL is pos = L at hl2 ⊢
      generalize delL ks pos = M at hl2 hl3 ⊢
      have ht1 : (avs L).take M.length = avs L := List.take_of_length_le (by simp [hl2])
      have ht2 : (M.map AV.str).take M.length = M.map AV.str := List.take_of_length_le (by simp)
      have hne : ¬ (M.length : Int) = ks.length := by omega
      have hne2 : ¬ M.length = ks.length := by omega
      have hF := And.intro (hN) (And.intro (hl2) (And.intro (hne) (hne2)))
      repeat (first | ((with_reducible show AW _ _ _ _ _); first | refine AW.seq ?_ | refine AW.block ?_ | refine AW.reg ?_ | refine AW.draw ?_ | refine wct ?_ | refine wcf ?_ | (refine AW.skip ?_; show AW _ _ _ _ _)) | refine wD1 ?_ | refine wD2 ?_ | refine wE1 ?_ | refine wE2 ?_ | (refine wE3 ?_; intro _) | (refine wE4 ?_; intro _) | refine wN ?_ | ((with_reducible show evIs _ (_ :: _) _ _); first | refine wQ ?_ | refine wF ?_ | refine wG ?_ | refine wT ?_ | refine wM ?_ | refine wS ?_ | refine wP ?_ | refine wJ ?_ | refine wX ?_ | refine wY ?_ | refine wZ ?_ | refine wU ?_ | refine wCp ?_ | refine wCp0 ?_ | refine wApz ?_ | (refine wCap ?_; intro qc hqc)) | refine evDone ?_ | ((fail_if_success with_reducible show AW _ _ _ _ _); show AW _ _ _ _ _))
      clear hF
      try (show AW _ _ _ _ _)
      refine AW.ret (retI rfl ?_)
      simp [hN, hl2, ht1, ht2, a55_res, resOk, resP, resV, ARes.op, R2s, R2, R1s, R1, closeOk, closeV]
    · have hfe : f = 0 := by rw [← hf, if_neg hfd]
      have hw1 : dL is pos f i = is := by rw [hie, hfe]; exact dL_end0
      have hw2 : dL ks pos f i = ks := by rw [hik, hfe]; exact dL_end0
      rw [hw1, hw2, if_neg hfd]
      have hF := And.intro (hN) (hlen)
      repeat (first | ((with_reducible show AW _ _ _ _ _); first | refine AW.seq ?_ | refine AW.block ?_ | refine AW.reg ?_ | refine AW.draw ?_ | refine wct ?_ | refine wcf ?_ | (refine AW.skip ?_; show AW _ _ _ _ _)) | refine wD1 ?_ | refine wD2 ?_ | refine wE1 ?_ | refine wE2 ?_ | (refine wE3 ?_; intro _) | (refine wE4 ?_; intro _) | refine wN ?_ | ((with_reducible show evIs _ (_ :: _) _ _); first | refine wQ ?_ | refine wF ?_ | refine wG ?_ | refine wT ?_ | refine wM ?_ | refine wS ?_ | refine wP ?_ | refine wJ ?_ | refine wX ?_ | refine wY ?_ | refine wZ ?_ | refine wU ?_ | refine wCp ?_ | refine wCp0 ?_ | refine wApz ?_ | (refine wCap ?_; intro qc hqc)) | refine evDone ?_ | ((fail_if_success with_reducible show AW _ _ _ _ _); show AW _ _ _ _ _))
      clear hF
      try (show AW _ _ _ _ _)
      refine AW.ret (retI rfl ?_)
      simp [hN, a55_res, resOk, resP, resV, ARes.op, R2s, R2, R1s, R1, closeOk, closeV]
end Go.Proofs.Ytdnpnokplfemfaa

set_option linter.unusedSimpArgs false
set_option linter.unusedVariables false
set_option maxHeartbeats 8000000
namespace Go.Proofs.Ytdnpnokplfemfaa
open Go Go.Amb Go.IntWalk

theorem flat_str (ks : List ByteArray) : flat (ks.map AV.str) = ks.map AV.str := by
  unfold flat
  rw [List.flatMap_map]
  induction ks with
  | nil => rfl
  | cons a l ih => rw [List.flatMap_cons, ih]; rfl
/-- A copy whose rows become roots. -/
theorem c20 (N : Nat) (is : List Val) (ks : List ByteArray) (hv : (Val.mk 5 0 ⟨#[]⟩ is ks).okv) :
    BCall Try.prog 20 [] N [.agg [.int .i64 5, .int .i64 0, .str ⟨#[]⟩, .sl .fro (avs is), .sl .fro (ks.map .str)]] (fun H1 n' v => H1 = [(N, ⟨5, false, avs is⟩), (N + 1, ⟨1, false, ks.map .str⟩)] ∧ n' = N + 2 ∧ v = .agg [.int .i64 5, .int .i64 0, .str ⟨#[]⟩, .hdr N 0 (avs is).length, .hdr (N + 1) 0 (ks.map AV.str).length]) := by
  have h := bcall_of (H0 := []) (N := N) (g20 5 0 ⟨#[]⟩ is ks hv) (.agg (.cl (.cl (.cl (.own (by omega) (.own (by omega) .nil))))) .nil) (args := [.agg [.int .i64 5, .int .i64 0, .str ⟨#[]⟩, .sl .fro (avs is), .sl .fro (ks.map .str)]]) (by simp [fzA, mapA, mapAs]) (.inl (by simp [okAs, okA]))
  exact h
theorem f54n (k n : Int) (t : ByteArray) (is : List Val) (ks : List ByteArray) (p : ByteArray) (hok : (Val.mk k n t is ks).okv) (h : ¬ (k = 5 ∧ wfV true (.mk k n t is ks) = true)) : ACall Try.prog 54 [.agg [.int .i64 k, .int .i64 n, .str t, .sl .fro (avs is), .sl .fro (ks.map .str)], .str p] (· = .tup [.agg [.int .i64 0, .int .i64 0, .str ⟨#[]⟩, .sl .fro [], .sl .fro []], .int .i64 12]) := by
  have h81 := f81n k n t is ks p hok h
  refine a54_of (by simp) ?_
  have hF := True.intro
  repeat (first | ((with_reducible show AW _ _ _ _ _); first | refine AW.seq ?_ | refine AW.block ?_ | refine AW.reg ?_ | refine AW.draw ?_ | refine wct ?_ | refine wcf ?_ | (refine AW.skip ?_; show AW _ _ _ _ _)) | refine wD1 ?_ | refine wD2 ?_ | refine wE1 ?_ | refine wE2 ?_ | (refine wE3 ?_; intro _) | (refine wE4 ?_; intro _) | refine wN ?_ | ((with_reducible show evIs _ (_ :: _) _ _); first | refine wQ ?_ | refine wF ?_ | refine wG ?_ | refine wT ?_ | refine wM ?_ | refine wS ?_ | refine wP ?_ | refine wJ ?_ | refine wX ?_ | refine wY ?_ | refine wZ ?_ | refine wU ?_ | refine wCp ?_ | refine wCp0 ?_ | refine wApz ?_ | (refine wCap ?_; intro qc hqc)) | refine evDone ?_ | ((fail_if_success with_reducible show AW _ _ _ _ _); show AW _ _ _ _ _))
  clear hF
  try (show AW _ _ _ _ _)
  have hF := True.intro
  refine wC (hA := h81) ?_
  clear hF
  have hF := True.intro
  repeat (first | ((with_reducible show AW _ _ _ _ _); first | refine AW.seq ?_ | refine AW.block ?_ | refine AW.reg ?_ | refine AW.draw ?_ | refine wct ?_ | refine wcf ?_ | (refine AW.skip ?_; show AW _ _ _ _ _)) | refine wD1 ?_ | refine wD2 ?_ | refine wE1 ?_ | refine wE2 ?_ | (refine wE3 ?_; intro _) | (refine wE4 ?_; intro _) | refine wN ?_ | ((with_reducible show evIs _ (_ :: _) _ _); first | refine wQ ?_ | refine wF ?_ | refine wG ?_ | refine wT ?_ | refine wM ?_ | refine wS ?_ | refine wP ?_ | refine wJ ?_ | refine wX ?_ | refine wY ?_ | refine wZ ?_ | refine wU ?_ | refine wCp ?_ | refine wCp0 ?_ | refine wApz ?_ | (refine wCap ?_; intro qc hqc)) | refine evDone ?_ | ((fail_if_success with_reducible show AW _ _ _ _ _); show AW _ _ _ _ _))
  clear hF
  try (show AW _ _ _ _ _)
  refine AW.ret (retI rfl ?_)
  simp [a54_res, resOk, resP, resV, ARes.op, R2s, R2, R1s, R1, closeOk, closeV]
theorem f54y (is : List Val) (ks : List ByteArray) (p : ByteArray) (hok : (Val.mk 5 0 ⟨#[]⟩ is ks).okv) (hw : wfV true (.mk 5 0 ⟨#[]⟩ is ks) = true) (hb : is.length ≤ 1000000) : ACall Try.prog 54 [.agg [.int .i64 5, .int .i64 0, .str ⟨#[]⟩, .sl .fro (avs is), .sl .fro (ks.map .str)], .str p] (· = dropR is ks p) := by
  have h81 := f81y is ks p hok hw hb
  obtain ⟨-, -, hlen, hr⟩ := wf_map hw
  unfold dropR
  generalize posK ks p = pos at *
  refine a54_of (by simp) ?_
  by_cases hf : ks[pos]? = some p
  · have hd : decide (ks[pos]? = some p) = true := by simp [hf]
    rw [hd] at h81
    rw [if_pos hf]
    have hlt : pos < ks.length := (List.getElem?_eq_some_iff.1 hf).1
    have hwi : IntKind.i64.wrap ((pos : Int) + 1) = (pos : Int) + 1 := i64_in _ ⟨by omega, by omega⟩
    have h20 := c20 500 is ks hok
    have h84 := f84 600 501 pos (ks.map .str) (by omega) (by simpa using hlt) (by simp; omega) (by simp) (by intro c hc; rw [flat_str] at hc; obtain ⟨s, _, rfl⟩ := List.mem_map.1 hc; rfl)
    have h85 := f85 700 500 pos (avs is) (by omega) (by simp; omega) (by simp; omega) (by intro x hx; rw [vals_map] at hx; obtain ⟨v, _, rfl⟩ := List.mem_map.1 hx; simp) (avs_shr is)
    simp only [List.length_map, avs_length] at h20 h84 h85
    have hF := True.intro
    repeat (first | ((with_reducible show AW _ _ _ _ _); first | refine AW.seq ?_ | refine AW.block ?_ | refine AW.reg ?_ | refine AW.draw ?_ | refine wct ?_ | refine wcf ?_ | (refine AW.skip ?_; show AW _ _ _ _ _)) | refine wD1 ?_ | refine wD2 ?_ | refine wE1 ?_ | refine wE2 ?_ | (refine wE3 ?_; intro _) | (refine wE4 ?_; intro _) | refine wN ?_ | ((with_reducible show evIs _ (_ :: _) _ _); first | refine wQ ?_ | refine wF ?_ | refine wG ?_ | refine wT ?_ | refine wM ?_ | refine wS ?_ | refine wP ?_ | refine wJ ?_ | refine wX ?_ | refine wY ?_ | refine wZ ?_ | refine wU ?_ | refine wCp ?_ | refine wCp0 ?_ | refine wApz ?_ | (refine wCap ?_; intro qc hqc)) | refine evDone ?_ | ((fail_if_success with_reducible show AW _ _ _ _ _); show AW _ _ _ _ _))
    clear hF
    try (show AW _ _ _ _ _)
    have hF := True.intro
    refine wC (hA := h81) ?_
    clear hF
    have hF := True.intro
    repeat (first | ((with_reducible show AW _ _ _ _ _); first | refine AW.seq ?_ | refine AW.block ?_ | refine AW.reg ?_ | refine AW.draw ?_ | refine wct ?_ | refine wcf ?_ | (refine AW.skip ?_; show AW _ _ _ _ _)) | refine wD1 ?_ | refine wD2 ?_ | refine wE1 ?_ | refine wE2 ?_ | (refine wE3 ?_; intro _) | (refine wE4 ?_; intro _) | refine wN ?_ | ((with_reducible show evIs _ (_ :: _) _ _); first | refine wQ ?_ | refine wF ?_ | refine wG ?_ | refine wT ?_ | refine wM ?_ | refine wS ?_ | refine wP ?_ | refine wJ ?_ | refine wX ?_ | refine wY ?_ | refine wZ ?_ | refine wU ?_ | refine wCp ?_ | refine wCp0 ?_ | refine wApz ?_ | (refine wCap ?_; intro qc hqc)) | refine evDone ?_ | ((fail_if_success with_reducible show AW _ _ _ _ _); show AW _ _ _ _ _))
    clear hF
    try (show AW _ _ _ _ _)
    have hF := True.intro
    refine wL (hA := h20) ?_
    clear hF
    rintro H1 n' v ⟨rfl, rfl, rfl⟩
    have hF := hwi
    repeat (first | ((with_reducible show AW _ _ _ _ _); first | refine AW.seq ?_ | refine AW.block ?_ | refine AW.reg ?_ | refine AW.draw ?_ | refine wct ?_ | refine wcf ?_ | (refine AW.skip ?_; show AW _ _ _ _ _)) | refine wD1 ?_ | refine wD2 ?_ | refine wE1 ?_ | refine wE2 ?_ | (refine wE3 ?_; intro _) | (refine wE4 ?_; intro _) | refine wN ?_ | ((with_reducible show evIs _ (_ :: _) _ _); first | refine wQ ?_ | refine wF ?_ | refine wG ?_ | refine wT ?_ | refine wM ?_ | refine wS ?_ | refine wP ?_ | refine wJ ?_ | refine wX ?_ | refine wY ?_ | refine wZ ?_ | refine wU ?_ | refine wCp ?_ | refine wCp0 ?_ | refine wApz ?_ | (refine wCap ?_; intro qc hqc)) | refine evDone ?_ | ((fail_if_success with_reducible show AW _ _ _ _ _); show AW _ _ _ _ _))
    clear hF
    try (show AW _ _ _ _ _)
    have hF := hwi
    refine wL (hA := h84) ?_
    clear hF
    rintro H1 n' v ⟨rfl, rfl, rfl⟩
    have hF := hwi
    repeat (first | ((with_reducible show AW _ _ _ _ _); first | refine AW.seq ?_ | refine AW.block ?_ | refine AW.reg ?_ | refine AW.draw ?_ | refine wct ?_ | refine wcf ?_ | (refine AW.skip ?_; show AW _ _ _ _ _)) | refine wD1 ?_ | refine wD2 ?_ | refine wE1 ?_ | refine wE2 ?_ | (refine wE3 ?_; intro _) | (refine wE4 ?_; intro _) | refine wN ?_ | ((with_reducible show evIs _ (_ :: _) _ _); first | refine wQ ?_ | refine wF ?_ | refine wG ?_ | refine wT ?_ | refine wM ?_ | refine wS ?_ | refine wP ?_ | refine wJ ?_ | refine wX ?_ | refine wY ?_ | refine wZ ?_ | refine wU ?_ | refine wCp ?_ | refine wCp0 ?_ | refine wApz ?_ | (refine wCap ?_; intro qc hqc)) | refine evDone ?_ | ((fail_if_success with_reducible show AW _ _ _ _ _); show AW _ _ _ _ _))
    clear hF
    try (show AW _ _ _ _ _)
    have hF := hwi
    refine wL (hA := h85) ?_
    clear hF
    rintro H1 n' v ⟨rfl, rfl, rfl⟩
    have hlti : pos < is.length := by omega
    have hT1 : (avs (is.take pos) ++ ((avs is).drop (pos + 1) ++ [zV])).take (is.length - 1) = avs (delL is pos) := by
      rw [← List.append_assoc, List.take_append_of_le_length (by simp; omega), List.take_of_length_le (by simp; omega)]
      simp [delL, vals_map, List.map_drop]
    have hT2 : ((ks.map AV.str).take pos ++ ((ks.map AV.str).drop (pos + 1) ++ [zStr])).take (ks.length - 1) = (delL ks pos).map AV.str := by
      rw [← List.append_assoc, List.take_append_of_le_length (by simp; omega), List.take_of_length_le (by simp; omega)]
      simp [delL, List.map_take, List.map_drop]
    have hb1 : is.length ≤ min pos is.length + (is.length - (pos + 1) + 1) + 1 := by omega
    have hb2 : ks.length ≤ min pos ks.length + (ks.length - (pos + 1) + 1) + 1 := by omega
    have hF := True.intro
    repeat (first | ((with_reducible show AW _ _ _ _ _); first | refine AW.seq ?_ | refine AW.block ?_ | refine AW.reg ?_ | refine AW.draw ?_ | refine wct ?_ | refine wcf ?_ | (refine AW.skip ?_; show AW _ _ _ _ _)) | refine wD1 ?_ | refine wD2 ?_ | refine wE1 ?_ | refine wE2 ?_ | (refine wE3 ?_; intro _) | (refine wE4 ?_; intro _) | refine wN ?_ | ((with_reducible show evIs _ (_ :: _) _ _); first | refine wQ ?_ | refine wF ?_ | refine wG ?_ | refine wT ?_ | refine wM ?_ | refine wS ?_ | refine wP ?_ | refine wJ ?_ | refine wX ?_ | refine wY ?_ | refine wZ ?_ | refine wU ?_ | refine wCp ?_ | refine wCp0 ?_ | refine wApz ?_ | (refine wCap ?_; intro qc hqc)) | refine evDone ?_ | ((fail_if_success with_reducible show AW _ _ _ _ _); show AW _ _ _ _ _))
    clear hF
    try (show AW _ _ _ _ _)
    refine AW.ret (retI rfl ?_)
    simp [hT1, hT2, hb1, hb2, a54_res, resOk, resP, resV, ARes.op, R2s, R2, R1s, R1, closeOk, closeV]
  · have hd : decide (ks[pos]? = some p) = false := by simp [hf]
    rw [hd] at h81
    rw [if_neg hf]
    have hF := True.intro
    repeat (first | ((with_reducible show AW _ _ _ _ _); first | refine AW.seq ?_ | refine AW.block ?_ | refine AW.reg ?_ | refine AW.draw ?_ | refine wct ?_ | refine wcf ?_ | (refine AW.skip ?_; show AW _ _ _ _ _)) | refine wD1 ?_ | refine wD2 ?_ | refine wE1 ?_ | refine wE2 ?_ | (refine wE3 ?_; intro _) | (refine wE4 ?_; intro _) | refine wN ?_ | ((with_reducible show evIs _ (_ :: _) _ _); first | refine wQ ?_ | refine wF ?_ | refine wG ?_ | refine wT ?_ | refine wM ?_ | refine wS ?_ | refine wP ?_ | refine wJ ?_ | refine wX ?_ | refine wY ?_ | refine wZ ?_ | refine wU ?_ | refine wCp ?_ | refine wCp0 ?_ | refine wApz ?_ | (refine wCap ?_; intro qc hqc)) | refine evDone ?_ | ((fail_if_success with_reducible show AW _ _ _ _ _); show AW _ _ _ _ _))
    clear hF
    try (show AW _ _ _ _ _)
    have hF := True.intro
    refine wC (hA := h81) ?_
    clear hF
    have hF := True.intro
    repeat (first | ((with_reducible show AW _ _ _ _ _); first | refine AW.seq ?_ | refine AW.block ?_ | refine AW.reg ?_ | refine AW.draw ?_ | refine wct ?_ | refine wcf ?_ | (refine AW.skip ?_; show AW _ _ _ _ _)) | refine wD1 ?_ | refine wD2 ?_ | refine wE1 ?_ | refine wE2 ?_ | (refine wE3 ?_; intro _) | (refine wE4 ?_; intro _) | refine wN ?_ | ((with_reducible show evIs _ (_ :: _) _ _); first | refine wQ ?_ | refine wF ?_ | refine wG ?_ | refine wT ?_ | refine wM ?_ | refine wS ?_ | refine wP ?_ | refine wJ ?_ | refine wX ?_ | refine wY ?_ | refine wZ ?_ | refine wU ?_ | refine wCp ?_ | refine wCp0 ?_ | refine wApz ?_ | (refine wCap ?_; intro qc hqc)) | refine evDone ?_ | ((fail_if_success with_reducible show AW _ _ _ _ _); show AW _ _ _ _ _))
    clear hF
    try (show AW _ _ _ _ _)
    refine AW.ret (retI rfl ?_)
    simp [a54_res, resOk, resP, resV, ARes.op, R2s, R2, R1s, R1, closeOk, closeV]
end Go.Proofs.Ytdnpnokplfemfaa

set_option linter.unusedSimpArgs false
set_option linter.unusedVariables false
set_option maxHeartbeats 8000000
namespace Go.Proofs.Ytdnpnokplfemfaa
open Go Go.Amb Go.IntWalk

theorem shsV_all (vs : List Val) : shsV vs = vs.all shV := by
  induction vs with
  | nil => rfl
  | cons v vs ih => rw [shsV, ih]; rfl
theorem sh_text {k n : Int} {t : ByteArray} {is : List Val} {ks : List ByteArray} (h : 4096 < t.size) : shV (.mk k n t is ks) = false := by
  unfold shV
  simp [h]
theorem sh_key {k n : Int} {t : ByteArray} {is : List Val} {ks : List ByteArray} {i : Nat} {s : ByteArray} (hx : ks[i]? = some s) (h : 4096 < s.size) : shV (.mk k n t is ks) = false := by
  have : ks.any (fun s => decide (4096 < s.size)) = true := List.any_eq_true.2 ⟨s, List.mem_of_getElem? hx, by simpa using h⟩
  unfold shV
  simp [this]
theorem sh_item {k n : Int} {t : ByteArray} {is : List Val} {ks : List ByteArray} {i : Nat} {x : Val} (hx : is[i]? = some x) (h : shV x = false) : shV (.mk k n t is ks) = false := by
  have : shsV is = false := by
    rw [shsV_all, List.all_eq_false]
    exact ⟨x, List.mem_of_getElem? hx, by simp [h]⟩
  unfold shV
  simp [this]
theorem sh_yes {k n : Int} {t : ByteArray} {is : List Val} {ks : List ByteArray} (h1 : ¬ 4096 < t.size) (h2 : ∀ j, j < ks.length → ∀ s, ks[j]? = some s → ¬ 4096 < s.size) (h3 : ∀ j, j < is.length → ∀ x, is[j]? = some x → shV x = true) : shV (.mk k n t is ks) = true := by
  have e2 : ks.any (fun s => decide (4096 < s.size)) = false := by
    rw [List.any_eq_false]
    intro s hs
    obtain ⟨j, hj, rfl⟩ := List.getElem_of_mem hs
    simpa using h2 j hj _ (List.getElem?_eq_getElem hj)
  have e3 : shsV is = true := by
    rw [shsV_all, List.all_eq_true]
    intro x hx
    obtain ⟨j, hj, rfl⟩ := List.getElem_of_mem hx
    exact h3 j hj _ (List.getElem?_eq_getElem hj)
  unfold shV
  rw [e2, e3]
  simp [h1]
theorem f96_step (m : Nat) (ih : ∀ v : Val, v.sz < m → v.okv → ACall Try.prog 96 [v.av] (· = .bool (shV v))) (v : Val) (hm : v.sz ≤ m) (hok : v.okv) : ACall Try.prog 96 [v.av] (· = .bool (shV v)) := by
  obtain ⟨k, n, t, is, ks⟩ := v
  simp only [Val.av, Val.sz, Val.okv] at hm hok ⊢
  obtain ⟨ho1, ho2, ho3⟩ := hok
  refine a96_of (by simp) ?_
  by_cases ht : 4096 < t.size
  · have hti : (4096 : Int) < t.size := by omega
    rw [sh_text ht]
    have hF := And.intro (ht) (hti)
    repeat (first | ((with_reducible show AW _ _ _ _ _); first | refine AW.seq ?_ | refine AW.block ?_ | refine AW.reg ?_ | refine AW.draw ?_ | refine wct ?_ | refine wcf ?_ | (refine AW.skip ?_; show AW _ _ _ _ _)) | refine wD1 ?_ | refine wD2 ?_ | refine wE1 ?_ | refine wE2 ?_ | (refine wE3 ?_; intro _) | (refine wE4 ?_; intro _) | refine wN ?_ | ((with_reducible show evIs _ (_ :: _) _ _); first | refine wQ ?_ | refine wF ?_ | refine wG ?_ | refine wT ?_ | refine wM ?_ | refine wS ?_ | refine wP ?_ | refine wJ ?_ | refine wX ?_ | refine wY ?_ | refine wZ ?_ | refine wU ?_ | refine wCp ?_ | refine wCp0 ?_ | refine wApz ?_ | (refine wCap ?_; intro qc hqc)) | refine evDone ?_ | ((fail_if_success with_reducible show AW _ _ _ _ _); show AW _ _ _ _ _))
    clear hF
    try (show AW _ _ _ _ _)
    refine AW.ret (retI rfl ?_)
    simp [a96_res, resOk, resP, resV, ARes.op, R2s, R2, R1s, R1, closeOk, closeV]
  have hti : ¬ (4096 : Int) < t.size := by omega
  have hF := And.intro (ht) (hti)
  repeat (first | ((with_reducible show AW _ _ _ _ _); first | refine AW.seq ?_ | refine AW.block ?_ | refine AW.reg ?_ | refine AW.draw ?_ | refine wct ?_ | refine wcf ?_ | (refine AW.skip ?_; show AW _ _ _ _ _)) | refine wD1 ?_ | refine wD2 ?_ | refine wE1 ?_ | refine wE2 ?_ | (refine wE3 ?_; intro _) | (refine wE4 ?_; intro _) | refine wN ?_ | ((with_reducible show evIs _ (_ :: _) _ _); first | refine wQ ?_ | refine wF ?_ | refine wG ?_ | refine wT ?_ | refine wM ?_ | refine wS ?_ | refine wP ?_ | refine wJ ?_ | refine wX ?_ | refine wY ?_ | refine wZ ?_ | refine wU ?_ | refine wCp ?_ | refine wCp0 ?_ | refine wApz ?_ | (refine wCap ?_; intro qc hqc)) | refine evDone ?_ | ((fail_if_success with_reducible show AW _ _ _ _ _); show AW _ _ _ _ _))
  clear hF
  try (show AW _ _ _ _ _)
  refine AW.loop (fun i : Nat => i ≤ ks.length ∧ ∀ j, j < i → ∀ s, ks[j]? = some s → ¬ 4096 < s.size) (fun i => mkS [(1, .ptr 0 0 0), (2, .bool false), (3, .int .i64 i)] [(0, ⟨5, true, [.agg [.int .i64 k, .int .i64 n, .str t, .sl .fro (avs is), .sl .fro (ks.map .str)]]⟩)] 60) (fun i => ks.length - i) 0 ⟨by omega, fun j hj => absurd hj (by omega)⟩ ?_ ?_
  · refine Fit.mk _ _ _ (by simp [conv2, newEmp, convs_refl, convs, conv]) (by simp [heapFit, newEmp, conv2s, conv2, convs_refl, convs, conv]) (by intro q hq; first | (simp at hq; done) | (simp at hq; omega) | (simp at hq; simp; omega))
  rintro i ⟨hi, hno⟩
  by_cases hlt : i < ks.length
  · obtain ⟨s, hs⟩ : ∃ s, ks[i]? = some s := ⟨_, List.getElem?_eq_getElem hlt⟩
    have hel : elemAt (ks.map AV.str) i = .str s := elem_map (f := AV.str) hs
    have hlti : (i : Int) < ks.length := by omega
    have hz : (0 : Int) ≤ i := by omega
    have hwi : IntKind.i64.wrap ((i : Int) + 1) = (i : Int) + 1 := i64_in _ ⟨by omega, by omega⟩
    by_cases hsz : 4096 < s.size
    · have hszi : (4096 : Int) < s.size := by omega
      rw [sh_key hs hsz]
      have hF := And.intro (hlti) (And.intro (hlt) (And.intro (hz) (And.intro (hel) (hszi))))
      repeat (first | ((with_reducible show AW _ _ _ _ _); first | refine AW.seq ?_ | refine AW.block ?_ | refine AW.reg ?_ | refine AW.draw ?_ | refine wct ?_ | refine wcf ?_ | (refine AW.skip ?_; show AW _ _ _ _ _)) | refine wD1 ?_ | refine wD2 ?_ | refine wE1 ?_ | refine wE2 ?_ | (refine wE3 ?_; intro _) | (refine wE4 ?_; intro _) | refine wN ?_ | ((with_reducible show evIs _ (_ :: _) _ _); first | refine wQ ?_ | refine wF ?_ | refine wG ?_ | refine wT ?_ | refine wM ?_ | refine wS ?_ | refine wP ?_ | refine wJ ?_ | refine wX ?_ | refine wY ?_ | refine wZ ?_ | refine wU ?_ | refine wCp ?_ | refine wCp0 ?_ | refine wApz ?_ | (refine wCap ?_; intro qc hqc)) | refine evDone ?_ | ((fail_if_success with_reducible show AW _ _ _ _ _); show AW _ _ _ _ _))
      clear hF
      try (show AW _ _ _ _ _)
      refine AW.ret (retI rfl ?_)
      simp [a96_res, resOk, resP, resV, ARes.op, R2s, R2, R1s, R1, closeOk, closeV]
    · have hszi : ¬ (4096 : Int) < s.size := by omega
      have hF := And.intro (hlti) (And.intro (hlt) (And.intro (hz) (And.intro (hel) (And.intro (hszi) (hwi)))))
      repeat (first | ((with_reducible show AW _ _ _ _ _); first | refine AW.seq ?_ | refine AW.block ?_ | refine AW.reg ?_ | refine AW.draw ?_ | refine wct ?_ | refine wcf ?_ | (refine AW.skip ?_; show AW _ _ _ _ _)) | refine wD1 ?_ | refine wD2 ?_ | refine wE1 ?_ | refine wE2 ?_ | (refine wE3 ?_; intro _) | (refine wE4 ?_; intro _) | refine wN ?_ | ((with_reducible show evIs _ (_ :: _) _ _); first | refine wQ ?_ | refine wF ?_ | refine wG ?_ | refine wT ?_ | refine wM ?_ | refine wS ?_ | refine wP ?_ | refine wJ ?_ | refine wX ?_ | refine wY ?_ | refine wZ ?_ | refine wU ?_ | refine wCp ?_ | refine wCp0 ?_ | refine wApz ?_ | (refine wCap ?_; intro qc hqc)) | refine evDone ?_ | ((fail_if_success with_reducible show AW _ _ _ _ _); show AW _ _ _ _ _))
      clear hF
      try (show AW _ _ _ _ _)
      refine ⟨i + 1, ⟨by omega, fun j hj x hx => ?_⟩, by omega, ?_⟩
      · by_cases hji : j = i
        · subst hji; rw [hs] at hx; injection hx with hx; subst hx; exact hsz
        · exact hno j (by omega) x hx
      · refine Fit.mk _ _ _ (by simp [hwi, conv2, newEmp, convs_refl, convs, conv]) (by simp [hwi, heapFit, newEmp, conv2s, conv2, convs_refl, convs, conv]) (by intro q hq; first | (simp at hq; done) | (simp at hq; omega) | (simp at hq; simp; omega))
  have hlti : ¬ (i : Int) < ks.length := by omega
  repeat refine AW.seq ?_
  refine AW.reg ?_
  have hF := hlti
  repeat ((with_reducible show evIs _ (_ :: _) _ _); first | refine wQ ?_ | refine wF ?_ | refine wG ?_ | refine wT ?_ | refine wM ?_ | refine wS ?_ | refine wP ?_)
  clear hF
  repeat refine evDone ?_
  try (show AW _ _ _ _ _)
  repeat refine AW.seq ?_
  refine AW.condF (by simp [hlti]) (by simp [hlti]) ?_
  refine AW.exit ?_
  show AW _ _ _ _ _
  have hkeys : ∀ j, j < ks.length → ∀ s, ks[j]? = some s → ¬ 4096 < s.size := fun j hj => hno j (by omega)
  clear hno
  have hF := True.intro
  repeat (first | ((with_reducible show AW _ _ _ _ _); first | refine AW.seq ?_ | refine AW.block ?_ | refine AW.reg ?_ | refine AW.draw ?_ | refine wct ?_ | refine wcf ?_ | (refine AW.skip ?_; show AW _ _ _ _ _)) | refine wD1 ?_ | refine wD2 ?_ | refine wE1 ?_ | refine wE2 ?_ | (refine wE3 ?_; intro _) | (refine wE4 ?_; intro _) | refine wN ?_ | ((with_reducible show evIs _ (_ :: _) _ _); first | refine wQ ?_ | refine wF ?_ | refine wG ?_ | refine wT ?_ | refine wM ?_ | refine wS ?_ | refine wP ?_ | refine wJ ?_ | refine wX ?_ | refine wY ?_ | refine wZ ?_ | refine wU ?_ | refine wCp ?_ | refine wCp0 ?_ | refine wApz ?_ | (refine wCap ?_; intro qc hqc)) | refine evDone ?_ | ((fail_if_success with_reducible show AW _ _ _ _ _); show AW _ _ _ _ _))
  clear hF
  try (show AW _ _ _ _ _)
  refine AW.loop (fun i : Nat => i ≤ is.length ∧ ∀ j, j < i → ∀ x, is[j]? = some x → shV x = true) (fun i => mkS [(1, .ptr 0 0 0), (2, .bool false), (4, .int .i64 i)] [(0, ⟨5, true, [.agg [.int .i64 k, .int .i64 n, .str t, .sl .fro (avs is), .sl .fro (ks.map .str)]]⟩)] 60) (fun i => is.length - i) 0 ⟨by omega, fun j hj => absurd hj (by omega)⟩ ?_ ?_
  · refine Fit.mk _ _ _ (by simp [conv2, newEmp, convs_refl, convs, conv]) (by simp [heapFit, newEmp, conv2s, conv2, convs_refl, convs, conv]) (by intro q hq; first | (simp at hq; done) | (simp at hq; omega) | (simp at hq; simp; omega))
  rintro i ⟨hi, hno⟩
  by_cases hlt : i < is.length
  · obtain ⟨x, hx⟩ : ∃ x, is[i]? = some x := ⟨_, List.getElem?_eq_getElem hlt⟩
    have he := elem_map (f := Val.av) hx
    rw [← vals_map] at he
    have hxm := List.mem_of_getElem? hx
    have hcall := ih x (by have := szs_mem hxm; omega) (okvs_mem ho3 hxm)
    have hlti : (i : Int) < is.length := by omega
    have hz : (0 : Int) ≤ i := by omega
    have hwi : IntKind.i64.wrap ((i : Int) + 1) = (i : Int) + 1 := i64_in _ ⟨by omega, by omega⟩
    cases hwx : shV x with
    | true =>
      rw [hwx] at hcall
      obtain ⟨xk, xn, xt, xi, xs⟩ := x
      simp only [Val.av] at he hcall
      have hF := And.intro (hlti) (And.intro (hlt) (And.intro (hz) (he)))
      repeat (first | ((with_reducible show AW _ _ _ _ _); first | refine AW.seq ?_ | refine AW.block ?_ | refine AW.reg ?_ | refine AW.draw ?_ | refine wct ?_ | refine wcf ?_ | (refine AW.skip ?_; show AW _ _ _ _ _)) | refine wD1 ?_ | refine wD2 ?_ | refine wE1 ?_ | refine wE2 ?_ | (refine wE3 ?_; intro _) | (refine wE4 ?_; intro _) | refine wN ?_ | ((with_reducible show evIs _ (_ :: _) _ _); first | refine wQ ?_ | refine wF ?_ | refine wG ?_ | refine wT ?_ | refine wM ?_ | refine wS ?_ | refine wP ?_ | refine wJ ?_ | refine wX ?_ | refine wY ?_ | refine wZ ?_ | refine wU ?_ | refine wCp ?_ | refine wCp0 ?_ | refine wApz ?_ | (refine wCap ?_; intro qc hqc)) | refine evDone ?_ | ((fail_if_success with_reducible show AW _ _ _ _ _); show AW _ _ _ _ _))
      clear hF
      try (show AW _ _ _ _ _)
      have hF := True.intro
      refine wC (hA := hcall) ?_
      clear hF
      have hF := hwi
      repeat (first | ((with_reducible show AW _ _ _ _ _); first | refine AW.seq ?_ | refine AW.block ?_ | refine AW.reg ?_ | refine AW.draw ?_ | refine wct ?_ | refine wcf ?_ | (refine AW.skip ?_; show AW _ _ _ _ _)) | refine wD1 ?_ | refine wD2 ?_ | refine wE1 ?_ | refine wE2 ?_ | (refine wE3 ?_; intro _) | (refine wE4 ?_; intro _) | refine wN ?_ | ((with_reducible show evIs _ (_ :: _) _ _); first | refine wQ ?_ | refine wF ?_ | refine wG ?_ | refine wT ?_ | refine wM ?_ | refine wS ?_ | refine wP ?_ | refine wJ ?_ | refine wX ?_ | refine wY ?_ | refine wZ ?_ | refine wU ?_ | refine wCp ?_ | refine wCp0 ?_ | refine wApz ?_ | (refine wCap ?_; intro qc hqc)) | refine evDone ?_ | ((fail_if_success with_reducible show AW _ _ _ _ _); show AW _ _ _ _ _))
      clear hF
      try (show AW _ _ _ _ _)
      refine ⟨i + 1, ⟨by omega, fun j hj y hy => ?_⟩, by omega, ?_⟩
      · by_cases hji : j = i
        · subst hji; rw [hx] at hy; injection hy with hy; subst hy; exact hwx
        · exact hno j (by omega) y hy
      · refine Fit.mk _ _ _ (by simp [hwi, conv2, newEmp, convs_refl, convs, conv]) (by simp [hwi, heapFit, newEmp, conv2s, conv2, convs_refl, convs, conv]) (by intro q hq; first | (simp at hq; done) | (simp at hq; omega) | (simp at hq; simp; omega))
    | false =>
      rw [hwx] at hcall
      rw [sh_item hx hwx]
      obtain ⟨xk, xn, xt, xi, xs⟩ := x
      simp only [Val.av] at he hcall
      have hF := And.intro (hlti) (And.intro (hlt) (And.intro (hz) (he)))
      repeat (first | ((with_reducible show AW _ _ _ _ _); first | refine AW.seq ?_ | refine AW.block ?_ | refine AW.reg ?_ | refine AW.draw ?_ | refine wct ?_ | refine wcf ?_ | (refine AW.skip ?_; show AW _ _ _ _ _)) | refine wD1 ?_ | refine wD2 ?_ | refine wE1 ?_ | refine wE2 ?_ | (refine wE3 ?_; intro _) | (refine wE4 ?_; intro _) | refine wN ?_ | ((with_reducible show evIs _ (_ :: _) _ _); first | refine wQ ?_ | refine wF ?_ | refine wG ?_ | refine wT ?_ | refine wM ?_ | refine wS ?_ | refine wP ?_ | refine wJ ?_ | refine wX ?_ | refine wY ?_ | refine wZ ?_ | refine wU ?_ | refine wCp ?_ | refine wCp0 ?_ | refine wApz ?_ | (refine wCap ?_; intro qc hqc)) | refine evDone ?_ | ((fail_if_success with_reducible show AW _ _ _ _ _); show AW _ _ _ _ _))
      clear hF
      try (show AW _ _ _ _ _)
      have hF := True.intro
      refine wC (hA := hcall) ?_
      clear hF
      have hF := True.intro
      repeat (first | ((with_reducible show AW _ _ _ _ _); first | refine AW.seq ?_ | refine AW.block ?_ | refine AW.reg ?_ | refine AW.draw ?_ | refine wct ?_ | refine wcf ?_ | (refine AW.skip ?_; show AW _ _ _ _ _)) | refine wD1 ?_ | refine wD2 ?_ | refine wE1 ?_ | refine wE2 ?_ | (refine wE3 ?_; intro _) | (refine wE4 ?_; intro _) | refine wN ?_ | ((with_reducible show evIs _ (_ :: _) _ _); first | refine wQ ?_ | refine wF ?_ | refine wG ?_ | refine wT ?_ | refine wM ?_ | refine wS ?_ | refine wP ?_ | refine wJ ?_ | refine wX ?_ | refine wY ?_ | refine wZ ?_ | refine wU ?_ | refine wCp ?_ | refine wCp0 ?_ | refine wApz ?_ | (refine wCap ?_; intro qc hqc)) | refine evDone ?_ | ((fail_if_success with_reducible show AW _ _ _ _ _); show AW _ _ _ _ _))
      clear hF
      try (show AW _ _ _ _ _)
      refine AW.ret (retI rfl ?_)
      simp [a96_res, resOk, resP, resV, ARes.op, R2s, R2, R1s, R1, closeOk, closeV]
  have hlti : ¬ (i : Int) < is.length := by omega
  repeat refine AW.seq ?_
  refine AW.reg ?_
  have hF := hlti
  repeat ((with_reducible show evIs _ (_ :: _) _ _); first | refine wQ ?_ | refine wF ?_ | refine wG ?_ | refine wT ?_ | refine wM ?_ | refine wS ?_ | refine wP ?_)
  clear hF
  repeat refine evDone ?_
  try (show AW _ _ _ _ _)
  repeat refine AW.seq ?_
  refine AW.condF (by simp [hlti]) (by simp [hlti]) ?_
  refine AW.exit ?_
  show AW _ _ _ _ _
  rw [sh_yes ht hkeys (fun j hj => hno j (by omega))]
  have hF := True.intro
  repeat (first | ((with_reducible show AW _ _ _ _ _); first | refine AW.seq ?_ | refine AW.block ?_ | refine AW.reg ?_ | refine AW.draw ?_ | refine wct ?_ | refine wcf ?_ | (refine AW.skip ?_; show AW _ _ _ _ _)) | refine wD1 ?_ | refine wD2 ?_ | refine wE1 ?_ | refine wE2 ?_ | (refine wE3 ?_; intro _) | (refine wE4 ?_; intro _) | refine wN ?_ | ((with_reducible show evIs _ (_ :: _) _ _); first | refine wQ ?_ | refine wF ?_ | refine wG ?_ | refine wT ?_ | refine wM ?_ | refine wS ?_ | refine wP ?_ | refine wJ ?_ | refine wX ?_ | refine wY ?_ | refine wZ ?_ | refine wU ?_ | refine wCp ?_ | refine wCp0 ?_ | refine wApz ?_ | (refine wCap ?_; intro qc hqc)) | refine evDone ?_ | ((fail_if_success with_reducible show AW _ _ _ _ _); show AW _ _ _ _ _))
  clear hF
  try (show AW _ _ _ _ _)
  refine AW.ret (retI rfl ?_)
  simp [a96_res, resOk, resP, resV, ARes.op, R2s, R2, R1s, R1, closeOk, closeV]
theorem f96 (v : Val) (hok : v.okv) : ACall Try.prog 96 [v.av] (· = .bool (shV v)) := by
  have key : ∀ (m : Nat) (v : Val), v.sz ≤ m → v.okv → ACall Try.prog 96 [v.av] (· = .bool (shV v)) := by
    intro m
    induction m using Nat.strongRecOn with
    | _ m ih => exact fun v hm hok => f96_step m (fun v' h => ih v'.sz h v' (Nat.le_refl _)) v hm hok
  exact key _ v (Nat.le_refl _) hok
theorem f67 (v : Val) (hok : v.okv) (hs : v.sz ≤ 1000000) : ACall Try.prog 67 [v.av] (· = .bool (winV v)) := by
  have h26 := f26 v hok hs
  have h28 := f28 v hok hs
  have h96 := f96 v hok
  obtain ⟨R, hR⟩ : ∃ R, R = winV v := ⟨_, rfl⟩
  rw [← hR]
  unfold winV at hR
  generalize v.dep = d at *
  generalize v.sz = s at *
  generalize shV v = b at *
  obtain ⟨k, n, t, is, ks⟩ := v
  simp only [Val.av] at h26 h28 h96 ⊢
  refine a67_of (by simp) ?_
  have hF := True.intro
  repeat (first | ((with_reducible show AW _ _ _ _ _); first | refine AW.seq ?_ | refine AW.block ?_ | refine AW.reg ?_ | refine AW.draw ?_ | refine wct ?_ | refine wcf ?_ | (refine AW.skip ?_; show AW _ _ _ _ _)) | refine wD1 ?_ | refine wD2 ?_ | refine wE1 ?_ | refine wE2 ?_ | (refine wE3 ?_; intro _) | (refine wE4 ?_; intro _) | refine wN ?_ | ((with_reducible show evIs _ (_ :: _) _ _); first | refine wQ ?_ | refine wF ?_ | refine wG ?_ | refine wT ?_ | refine wM ?_ | refine wS ?_ | refine wP ?_ | refine wJ ?_ | refine wX ?_ | refine wY ?_ | refine wZ ?_ | refine wU ?_ | refine wCp ?_ | refine wCp0 ?_ | refine wApz ?_ | (refine wCap ?_; intro qc hqc)) | refine evDone ?_ | ((fail_if_success with_reducible show AW _ _ _ _ _); show AW _ _ _ _ _))
  clear hF
  try (show AW _ _ _ _ _)
  have hF := True.intro
  refine wC (hA := h96) ?_
  clear hF
  cases b with
  | false =>
    have hfin : R = false := by rw [hR]; simp
    rw [hfin]
    have hF := True.intro
    repeat (first | ((with_reducible show AW _ _ _ _ _); first | refine AW.seq ?_ | refine AW.block ?_ | refine AW.reg ?_ | refine AW.draw ?_ | refine wct ?_ | refine wcf ?_ | (refine AW.skip ?_; show AW _ _ _ _ _)) | refine wD1 ?_ | refine wD2 ?_ | refine wE1 ?_ | refine wE2 ?_ | (refine wE3 ?_; intro _) | (refine wE4 ?_; intro _) | refine wN ?_ | ((with_reducible show evIs _ (_ :: _) _ _); first | refine wQ ?_ | refine wF ?_ | refine wG ?_ | refine wT ?_ | refine wM ?_ | refine wS ?_ | refine wP ?_ | refine wJ ?_ | refine wX ?_ | refine wY ?_ | refine wZ ?_ | refine wU ?_ | refine wCp ?_ | refine wCp0 ?_ | refine wApz ?_ | (refine wCap ?_; intro qc hqc)) | refine evDone ?_ | ((fail_if_success with_reducible show AW _ _ _ _ _); show AW _ _ _ _ _))
    clear hF
    try (show AW _ _ _ _ _)
    refine AW.ret (retI rfl ?_)
    simp [a67_res, resOk, resP, resV, ARes.op, R2s, R2, R1s, R1, closeOk, closeV]
  | true =>
    have hF := True.intro
    repeat (first | ((with_reducible show AW _ _ _ _ _); first | refine AW.seq ?_ | refine AW.block ?_ | refine AW.reg ?_ | refine AW.draw ?_ | refine wct ?_ | refine wcf ?_ | (refine AW.skip ?_; show AW _ _ _ _ _)) | refine wD1 ?_ | refine wD2 ?_ | refine wE1 ?_ | refine wE2 ?_ | (refine wE3 ?_; intro _) | (refine wE4 ?_; intro _) | refine wN ?_ | ((with_reducible show evIs _ (_ :: _) _ _); first | refine wQ ?_ | refine wF ?_ | refine wG ?_ | refine wT ?_ | refine wM ?_ | refine wS ?_ | refine wP ?_ | refine wJ ?_ | refine wX ?_ | refine wY ?_ | refine wZ ?_ | refine wU ?_ | refine wCp ?_ | refine wCp0 ?_ | refine wApz ?_ | (refine wCap ?_; intro qc hqc)) | refine evDone ?_ | ((fail_if_success with_reducible show AW _ _ _ _ _); show AW _ _ _ _ _))
    clear hF
    try (show AW _ _ _ _ _)
    have hF := True.intro
    refine wC (hA := h26) ?_
    clear hF
    by_cases hd : d ≤ 16
    · have hdi : (d : Int) ≤ 16 := by omega
      have hF := And.intro (hdi) (hd)
      repeat (first | ((with_reducible show AW _ _ _ _ _); first | refine AW.seq ?_ | refine AW.block ?_ | refine AW.reg ?_ | refine AW.draw ?_ | refine wct ?_ | refine wcf ?_ | (refine AW.skip ?_; show AW _ _ _ _ _)) | refine wD1 ?_ | refine wD2 ?_ | refine wE1 ?_ | refine wE2 ?_ | (refine wE3 ?_; intro _) | (refine wE4 ?_; intro _) | refine wN ?_ | ((with_reducible show evIs _ (_ :: _) _ _); first | refine wQ ?_ | refine wF ?_ | refine wG ?_ | refine wT ?_ | refine wM ?_ | refine wS ?_ | refine wP ?_ | refine wJ ?_ | refine wX ?_ | refine wY ?_ | refine wZ ?_ | refine wU ?_ | refine wCp ?_ | refine wCp0 ?_ | refine wApz ?_ | (refine wCap ?_; intro qc hqc)) | refine evDone ?_ | ((fail_if_success with_reducible show AW _ _ _ _ _); show AW _ _ _ _ _))
      clear hF
      try (show AW _ _ _ _ _)
      have hF := True.intro
      refine wC (hA := h28) ?_
      clear hF
      by_cases hz : s ≤ 1000
      · have hzi : (s : Int) ≤ 1000 := by omega
        have hfin : R = true := by rw [hR]; simp [hz, hd]
        rw [hfin]
        have hF := And.intro (hzi) (And.intro (hz) (And.intro (hdi) (hd)))
        repeat (first | ((with_reducible show AW _ _ _ _ _); first | refine AW.seq ?_ | refine AW.block ?_ | refine AW.reg ?_ | refine AW.draw ?_ | refine wct ?_ | refine wcf ?_ | (refine AW.skip ?_; show AW _ _ _ _ _)) | refine wD1 ?_ | refine wD2 ?_ | refine wE1 ?_ | refine wE2 ?_ | (refine wE3 ?_; intro _) | (refine wE4 ?_; intro _) | refine wN ?_ | ((with_reducible show evIs _ (_ :: _) _ _); first | refine wQ ?_ | refine wF ?_ | refine wG ?_ | refine wT ?_ | refine wM ?_ | refine wS ?_ | refine wP ?_ | refine wJ ?_ | refine wX ?_ | refine wY ?_ | refine wZ ?_ | refine wU ?_ | refine wCp ?_ | refine wCp0 ?_ | refine wApz ?_ | (refine wCap ?_; intro qc hqc)) | refine evDone ?_ | ((fail_if_success with_reducible show AW _ _ _ _ _); show AW _ _ _ _ _))
        clear hF
        try (show AW _ _ _ _ _)
        refine AW.ret (retI rfl ?_)
        simp [hz, hd, a67_res, resOk, resP, resV, ARes.op, R2s, R2, R1s, R1, closeOk, closeV]
      · have hzi : ¬ (s : Int) ≤ 1000 := by omega
        have hfin : R = false := by rw [hR]; simp [hz]
        rw [hfin]
        have hF := And.intro (hzi) (And.intro (hz) (And.intro (hdi) (hd)))
        repeat (first | ((with_reducible show AW _ _ _ _ _); first | refine AW.seq ?_ | refine AW.block ?_ | refine AW.reg ?_ | refine AW.draw ?_ | refine wct ?_ | refine wcf ?_ | (refine AW.skip ?_; show AW _ _ _ _ _)) | refine wD1 ?_ | refine wD2 ?_ | refine wE1 ?_ | refine wE2 ?_ | (refine wE3 ?_; intro _) | (refine wE4 ?_; intro _) | refine wN ?_ | ((with_reducible show evIs _ (_ :: _) _ _); first | refine wQ ?_ | refine wF ?_ | refine wG ?_ | refine wT ?_ | refine wM ?_ | refine wS ?_ | refine wP ?_ | refine wJ ?_ | refine wX ?_ | refine wY ?_ | refine wZ ?_ | refine wU ?_ | refine wCp ?_ | refine wCp0 ?_ | refine wApz ?_ | (refine wCap ?_; intro qc hqc)) | refine evDone ?_ | ((fail_if_success with_reducible show AW _ _ _ _ _); show AW _ _ _ _ _))
        clear hF
        try (show AW _ _ _ _ _)
        refine AW.ret (retI rfl ?_)
        simp [hz, hd, a67_res, resOk, resP, resV, ARes.op, R2s, R2, R1s, R1, closeOk, closeV]
    · have hdi : ¬ (d : Int) ≤ 16 := by omega
      have hfin : R = false := by rw [hR]; simp [hd]
      rw [hfin]
      have hF := And.intro (hdi) (hd)
      repeat (first | ((with_reducible show AW _ _ _ _ _); first | refine AW.seq ?_ | refine AW.block ?_ | refine AW.reg ?_ | refine AW.draw ?_ | refine wct ?_ | refine wcf ?_ | (refine AW.skip ?_; show AW _ _ _ _ _)) | refine wD1 ?_ | refine wD2 ?_ | refine wE1 ?_ | refine wE2 ?_ | (refine wE3 ?_; intro _) | (refine wE4 ?_; intro _) | refine wN ?_ | ((with_reducible show evIs _ (_ :: _) _ _); first | refine wQ ?_ | refine wF ?_ | refine wG ?_ | refine wT ?_ | refine wM ?_ | refine wS ?_ | refine wP ?_ | refine wJ ?_ | refine wX ?_ | refine wY ?_ | refine wZ ?_ | refine wU ?_ | refine wCp ?_ | refine wCp0 ?_ | refine wApz ?_ | (refine wCap ?_; intro qc hqc)) | refine evDone ?_ | ((fail_if_success with_reducible show AW _ _ _ _ _); show AW _ _ _ _ _))
      clear hF
      try (show AW _ _ _ _ _)
      refine AW.ret (retI rfl ?_)
      simp [hd, a67_res, resOk, resP, resV, ARes.op, R2s, R2, R1s, R1, closeOk, closeV]
end Go.Proofs.Ytdnpnokplfemfaa

set_option linter.unusedSimpArgs false
set_option linter.unusedVariables false
set_option maxHeartbeats 8000000
namespace Go.Proofs.Ytdnpnokplfemfaa
open Go Go.Amb Go.IntWalk

theorem f53n (k n : Int) (t : ByteArray) (is : List Val) (ks : List ByteArray) (p : ByteArray) (xk xn : Int) (xt : ByteArray) (xi : List Val) (xs : List ByteArray) (hok : (Val.mk k n t is ks).okv) (h : ¬ (k = 5 ∧ wfV true (.mk k n t is ks) = true)) : ACall Try.prog 53 [.agg [.int .i64 k, .int .i64 n, .str t, .sl .fro (avs is), .sl .fro (ks.map .str)], .str p, .agg [.int .i64 xk, .int .i64 xn, .str xt, .sl .fro (avs xi), .sl .fro (xs.map .str)]] (· = .tup [.agg [.int .i64 0, .int .i64 0, .str ⟨#[]⟩, .sl .fro [], .sl .fro []], .int .i64 12]) := by
  refine a53_of (by simp) ?_
  by_cases hk : k = 5
  · have hw : wfV true (.mk k n t is ks) = false := by simpa [hk] using h
    have h15 := f15 _ hok
    rw [hw] at h15
    simp only [Val.av] at h15
    subst hk
    have hF := True.intro
    repeat (first | ((with_reducible show AW _ _ _ _ _); first | refine AW.seq ?_ | refine AW.block ?_ | refine AW.reg ?_ | refine AW.draw ?_ | refine wct ?_ | refine wcf ?_ | (refine AW.skip ?_; show AW _ _ _ _ _)) | refine wD1 ?_ | refine wD2 ?_ | refine wE1 ?_ | refine wE2 ?_ | (refine wE3 ?_; intro _) | (refine wE4 ?_; intro _) | refine wN ?_ | ((with_reducible show evIs _ (_ :: _) _ _); first | refine wQ ?_ | refine wF ?_ | refine wG ?_ | refine wT ?_ | refine wM ?_ | refine wS ?_ | refine wP ?_ | refine wJ ?_ | refine wX ?_ | refine wY ?_ | refine wZ ?_ | refine wU ?_ | refine wCp ?_ | refine wCp0 ?_ | refine wApz ?_ | (refine wCap ?_; intro qc hqc)) | refine evDone ?_ | ((fail_if_success with_reducible show AW _ _ _ _ _); show AW _ _ _ _ _))
    clear hF
    try (show AW _ _ _ _ _)
    have hF := True.intro
    refine wC (hA := h15) ?_
    clear hF
    have hF := True.intro
    repeat (first | ((with_reducible show AW _ _ _ _ _); first | refine AW.seq ?_ | refine AW.block ?_ | refine AW.reg ?_ | refine AW.draw ?_ | refine wct ?_ | refine wcf ?_ | (refine AW.skip ?_; show AW _ _ _ _ _)) | refine wD1 ?_ | refine wD2 ?_ | refine wE1 ?_ | refine wE2 ?_ | (refine wE3 ?_; intro _) | (refine wE4 ?_; intro _) | refine wN ?_ | ((with_reducible show evIs _ (_ :: _) _ _); first | refine wQ ?_ | refine wF ?_ | refine wG ?_ | refine wT ?_ | refine wM ?_ | refine wS ?_ | refine wP ?_ | refine wJ ?_ | refine wX ?_ | refine wY ?_ | refine wZ ?_ | refine wU ?_ | refine wCp ?_ | refine wCp0 ?_ | refine wApz ?_ | (refine wCap ?_; intro qc hqc)) | refine evDone ?_ | ((fail_if_success with_reducible show AW _ _ _ _ _); show AW _ _ _ _ _))
    clear hF
    try (show AW _ _ _ _ _)
    refine AW.ret (retI rfl ?_)
    simp [a53_res, resOk, resP, resV, ARes.op, R2s, R2, R1s, R1, closeOk, closeV]
  · have hF := hk
    repeat (first | ((with_reducible show AW _ _ _ _ _); first | refine AW.seq ?_ | refine AW.block ?_ | refine AW.reg ?_ | refine AW.draw ?_ | refine wct ?_ | refine wcf ?_ | (refine AW.skip ?_; show AW _ _ _ _ _)) | refine wD1 ?_ | refine wD2 ?_ | refine wE1 ?_ | refine wE2 ?_ | (refine wE3 ?_; intro _) | (refine wE4 ?_; intro _) | refine wN ?_ | ((with_reducible show evIs _ (_ :: _) _ _); first | refine wQ ?_ | refine wF ?_ | refine wG ?_ | refine wT ?_ | refine wM ?_ | refine wS ?_ | refine wP ?_ | refine wJ ?_ | refine wX ?_ | refine wY ?_ | refine wZ ?_ | refine wU ?_ | refine wCp ?_ | refine wCp0 ?_ | refine wApz ?_ | (refine wCap ?_; intro qc hqc)) | refine evDone ?_ | ((fail_if_success with_reducible show AW _ _ _ _ _); show AW _ _ _ _ _))
    clear hF
    try (show AW _ _ _ _ _)
    refine AW.ret (retI rfl ?_)
    simp [a53_res, resOk, resP, resV, ARes.op, R2s, R2, R1s, R1, closeOk, closeV]
theorem f52n (k n : Int) (t : ByteArray) (is : List Val) (ks : List ByteArray) (p : ByteArray) (xk xn : Int) (xt : ByteArray) (xi : List Val) (xs : List ByteArray) (hok : (Val.mk k n t is ks).okv) (h : ¬ (k = 5 ∧ wfV true (.mk k n t is ks) = true)) : ACall Try.prog 52 [.agg [.int .i64 k, .int .i64 n, .str t, .sl .fro (avs is), .sl .fro (ks.map .str)], .str p, .agg [.int .i64 xk, .int .i64 xn, .str xt, .sl .fro (avs xi), .sl .fro (xs.map .str)]] (· = .tup [.agg [.int .i64 0, .int .i64 0, .str ⟨#[]⟩, .sl .fro [], .sl .fro []], .int .i64 12]) := by
  have h81 := f81n k n t is ks p hok h
  refine a52_of (by simp) ?_
  have hF := True.intro
  repeat (first | ((with_reducible show AW _ _ _ _ _); first | refine AW.seq ?_ | refine AW.block ?_ | refine AW.reg ?_ | refine AW.draw ?_ | refine wct ?_ | refine wcf ?_ | (refine AW.skip ?_; show AW _ _ _ _ _)) | refine wD1 ?_ | refine wD2 ?_ | refine wE1 ?_ | refine wE2 ?_ | (refine wE3 ?_; intro _) | (refine wE4 ?_; intro _) | refine wN ?_ | ((with_reducible show evIs _ (_ :: _) _ _); first | refine wQ ?_ | refine wF ?_ | refine wG ?_ | refine wT ?_ | refine wM ?_ | refine wS ?_ | refine wP ?_ | refine wJ ?_ | refine wX ?_ | refine wY ?_ | refine wZ ?_ | refine wU ?_ | refine wCp ?_ | refine wCp0 ?_ | refine wApz ?_ | (refine wCap ?_; intro qc hqc)) | refine evDone ?_ | ((fail_if_success with_reducible show AW _ _ _ _ _); show AW _ _ _ _ _))
  clear hF
  try (show AW _ _ _ _ _)
  have hF := True.intro
  refine wC (hA := h81) ?_
  clear hF
  have hF := True.intro
  repeat (first | ((with_reducible show AW _ _ _ _ _); first | refine AW.seq ?_ | refine AW.block ?_ | refine AW.reg ?_ | refine AW.draw ?_ | refine wct ?_ | refine wcf ?_ | (refine AW.skip ?_; show AW _ _ _ _ _)) | refine wD1 ?_ | refine wD2 ?_ | refine wE1 ?_ | refine wE2 ?_ | (refine wE3 ?_; intro _) | (refine wE4 ?_; intro _) | refine wN ?_ | ((with_reducible show evIs _ (_ :: _) _ _); first | refine wQ ?_ | refine wF ?_ | refine wG ?_ | refine wT ?_ | refine wM ?_ | refine wS ?_ | refine wP ?_ | refine wJ ?_ | refine wX ?_ | refine wY ?_ | refine wZ ?_ | refine wU ?_ | refine wCp ?_ | refine wCp0 ?_ | refine wApz ?_ | (refine wCap ?_; intro qc hqc)) | refine evDone ?_ | ((fail_if_success with_reducible show AW _ _ _ _ _); show AW _ _ _ _ _))
  clear hF
  try (show AW _ _ _ _ _)
  refine AW.ret (retI rfl ?_)
  simp [a52_res, resOk, resP, resV, ARes.op, R2s, R2, R1s, R1, closeOk, closeV]
/-- The map with the element put. -/
abbrev putV (is : List Val) (ks : List ByteArray) (p : ByteArray) (x : Val) : Val := .mk 5 0 ⟨#[]⟩ (insL is (posK ks p) (hasK ks p) x) (insL ks (posK ks p) (hasK ks p) p)
/-- What both Puts give at a map. -/
abbrev putR (is : List Val) (ks : List ByteArray) (p : ByteArray) (x : Val) : AV := cond (winV (putV is ks p x)) (.tup [.agg [.int .i64 5, .int .i64 0, .str ⟨#[]⟩, .sl .fro (avs (insL is (posK ks p) (hasK ks p) x)), .sl .fro ((insL ks (posK ks p) (hasK ks p) p).map .str)], .int .i64 0]) (.tup [.agg [.int .i64 0, .int .i64 0, .str ⟨#[]⟩, .sl .fro [], .sl .fro []], .int .i64 6])
theorem insL_mem {α : Type} {l : List α} {pos f : Nat} {x z : α} (h : z ∈ insL l pos f x) : z ∈ l ∨ z = x := by
  unfold insL at h
  rcases List.mem_append.1 h with h | h
  · exact .inl (List.mem_of_mem_take h)
  · rcases List.mem_cons.1 h with h | h
    · exact .inr h
    · exact .inl (List.mem_of_mem_drop h)
theorem insL_le {α : Type} {l : List α} {pos f : Nat} {x : α} : (insL l pos f x).length ≤ l.length + 1 := by
  unfold insL
  simp
  omega
theorem szs_drop_le (is : List Val) (i : Nat) : szs (is.drop i) ≤ szs is := by
  have : szs is = szs (is.take i) + szs (is.drop i) := by rw [← szs_append, List.take_append_drop]
  omega
theorem szs_ins (is : List Val) (pos f : Nat) (x : Val) : szs (insL is pos f x) ≤ szs is + x.sz := by
  unfold insL
  rw [szs_append]
  simp only [szs]
  have h1 : szs is = szs (is.take pos) + szs (is.drop pos) := by rw [← szs_append, List.take_append_drop]
  have h2 : szs (is.drop (pos + f)) ≤ szs (is.drop pos) := by rw [← List.drop_drop]; exact szs_drop_le _ _
  omega
theorem put_ok {is : List Val} {ks : List ByteArray} {p : ByteArray} {x : Val} (hi : okvs is) (hx : x.okv) (h1 : is.length ≤ 1000000) (h2 : ks.length ≤ 1000000) : (putV is ks p x).okv := by
  refine ⟨?_, ?_, okvs_of ?_⟩
  · have := insL_le (l := is) (pos := posK ks p) (f := hasK ks p) (x := x); omega
  · have := insL_le (l := ks) (pos := posK ks p) (f := hasK ks p) (x := p); omega
  · intro z hz
    rcases insL_mem hz with h | rfl
    · exact okvs_mem hi h
    · exact hx
theorem f53y (is : List Val) (ks : List ByteArray) (p : ByteArray) (xk xn : Int) (xt : ByteArray) (xi : List Val) (xs : List ByteArray) (hok : (Val.mk 5 0 ⟨#[]⟩ is ks).okv) (hox : (Val.mk xk xn xt xi xs).okv) (hw : wfV true (.mk 5 0 ⟨#[]⟩ is ks) = true) (hb : szs is ≤ 400000) (hb2 : (Val.mk xk xn xt xi xs).sz ≤ 400000) :
    ACall Try.prog 53 [.agg [.int .i64 5, .int .i64 0, .str ⟨#[]⟩, .sl .fro (avs is), .sl .fro (ks.map .str)], .str p, .agg [.int .i64 xk, .int .i64 xn, .str xt, .sl .fro (avs xi), .sl .fro (xs.map .str)]] (· = putR is ks p (.mk xk xn xt xi xs)) := by
  have h15 := f15 _ hok
  rw [hw] at h15
  simp only [Val.av] at h15
  obtain ⟨-, -, hlen, hr⟩ := wf_map hw
  have hil := szs_len is
  have h75 := f75 5 0 ⟨#[]⟩ is ks p xk xn xt xi xs hr hlen (by omega)
  simp only [Val.okv] at hok
  have hpo := put_ok (is := is) (ks := ks) (p := p) (x := .mk xk xn xt xi xs) hok.2.2 hox (by omega) (by omega)
  have hps : (putV is ks p (.mk xk xn xt xi xs)).sz ≤ 1000000 := by
    simp only [putV, Val.sz]
    have := szs_ins is (posK ks p) (hasK ks p) (.mk xk xn xt xi xs)
    omega
  have h67 := f67 _ hpo hps
  clear hpo hps
  unfold putR
  simp only [putV, Val.av] at h67 ⊢
  generalize insL is (posK ks p) (hasK ks p) (.mk xk xn xt xi xs) = L at *
  generalize insL ks (posK ks p) (hasK ks p) p = M at *
  have hcl := clC_avs L
  have hcs := strs_cl M
  refine a53_of (by simp) ?_
  cases hwi : winV (.mk 5 0 ⟨#[]⟩ L M) with
  | true =>
    rw [hwi] at h67
    have hF := True.intro
    repeat (first | ((with_reducible show AW _ _ _ _ _); first | refine AW.seq ?_ | refine AW.block ?_ | refine AW.reg ?_ | refine AW.draw ?_ | refine wct ?_ | refine wcf ?_ | (refine AW.skip ?_; show AW _ _ _ _ _)) | refine wD1 ?_ | refine wD2 ?_ | refine wE1 ?_ | refine wE2 ?_ | (refine wE3 ?_; intro _) | (refine wE4 ?_; intro _) | refine wN ?_ | ((with_reducible show evIs _ (_ :: _) _ _); first | refine wQ ?_ | refine wF ?_ | refine wG ?_ | refine wT ?_ | refine wM ?_ | refine wS ?_ | refine wP ?_ | refine wJ ?_ | refine wX ?_ | refine wY ?_ | refine wZ ?_ | refine wU ?_ | refine wCp ?_ | refine wCp0 ?_ | refine wApz ?_ | (refine wCap ?_; intro qc hqc)) | refine evDone ?_ | ((fail_if_success with_reducible show AW _ _ _ _ _); show AW _ _ _ _ _))
    clear hF
    try (show AW _ _ _ _ _)
    have hF := True.intro
    refine wC (hA := h15) ?_
    clear hF
    have hF := True.intro
    repeat (first | ((with_reducible show AW _ _ _ _ _); first | refine AW.seq ?_ | refine AW.block ?_ | refine AW.reg ?_ | refine AW.draw ?_ | refine wct ?_ | refine wcf ?_ | (refine AW.skip ?_; show AW _ _ _ _ _)) | refine wD1 ?_ | refine wD2 ?_ | refine wE1 ?_ | refine wE2 ?_ | (refine wE3 ?_; intro _) | (refine wE4 ?_; intro _) | refine wN ?_ | ((with_reducible show evIs _ (_ :: _) _ _); first | refine wQ ?_ | refine wF ?_ | refine wG ?_ | refine wT ?_ | refine wM ?_ | refine wS ?_ | refine wP ?_ | refine wJ ?_ | refine wX ?_ | refine wY ?_ | refine wZ ?_ | refine wU ?_ | refine wCp ?_ | refine wCp0 ?_ | refine wApz ?_ | (refine wCap ?_; intro qc hqc)) | refine evDone ?_ | ((fail_if_success with_reducible show AW _ _ _ _ _); show AW _ _ _ _ _))
    clear hF
    try (show AW _ _ _ _ _)
    have hF := And.intro (hcl) (hcs)
    refine wC (hA := h75) ?_
    clear hF
    have hF := True.intro
    repeat (first | ((with_reducible show AW _ _ _ _ _); first | refine AW.seq ?_ | refine AW.block ?_ | refine AW.reg ?_ | refine AW.draw ?_ | refine wct ?_ | refine wcf ?_ | (refine AW.skip ?_; show AW _ _ _ _ _)) | refine wD1 ?_ | refine wD2 ?_ | refine wE1 ?_ | refine wE2 ?_ | (refine wE3 ?_; intro _) | (refine wE4 ?_; intro _) | refine wN ?_ | ((with_reducible show evIs _ (_ :: _) _ _); first | refine wQ ?_ | refine wF ?_ | refine wG ?_ | refine wT ?_ | refine wM ?_ | refine wS ?_ | refine wP ?_ | refine wJ ?_ | refine wX ?_ | refine wY ?_ | refine wZ ?_ | refine wU ?_ | refine wCp ?_ | refine wCp0 ?_ | refine wApz ?_ | (refine wCap ?_; intro qc hqc)) | refine evDone ?_ | ((fail_if_success with_reducible show AW _ _ _ _ _); show AW _ _ _ _ _))
    clear hF
    try (show AW _ _ _ _ _)
    have hF := True.intro
    refine wC (hA := h67) ?_
    clear hF
    have hF := True.intro
    repeat (first | ((with_reducible show AW _ _ _ _ _); first | refine AW.seq ?_ | refine AW.block ?_ | refine AW.reg ?_ | refine AW.draw ?_ | refine wct ?_ | refine wcf ?_ | (refine AW.skip ?_; show AW _ _ _ _ _)) | refine wD1 ?_ | refine wD2 ?_ | refine wE1 ?_ | refine wE2 ?_ | (refine wE3 ?_; intro _) | (refine wE4 ?_; intro _) | refine wN ?_ | ((with_reducible show evIs _ (_ :: _) _ _); first | refine wQ ?_ | refine wF ?_ | refine wG ?_ | refine wT ?_ | refine wM ?_ | refine wS ?_ | refine wP ?_ | refine wJ ?_ | refine wX ?_ | refine wY ?_ | refine wZ ?_ | refine wU ?_ | refine wCp ?_ | refine wCp0 ?_ | refine wApz ?_ | (refine wCap ?_; intro qc hqc)) | refine evDone ?_ | ((fail_if_success with_reducible show AW _ _ _ _ _); show AW _ _ _ _ _))
    clear hF
    try (show AW _ _ _ _ _)
    refine AW.ret (retI rfl ?_)
    simp [a53_res, resOk, resP, resV, ARes.op, R2s, R2, R1s, R1, closeOk, closeV]
  | false =>
    rw [hwi] at h67
    have hF := True.intro
    repeat (first | ((with_reducible show AW _ _ _ _ _); first | refine AW.seq ?_ | refine AW.block ?_ | refine AW.reg ?_ | refine AW.draw ?_ | refine wct ?_ | refine wcf ?_ | (refine AW.skip ?_; show AW _ _ _ _ _)) | refine wD1 ?_ | refine wD2 ?_ | refine wE1 ?_ | refine wE2 ?_ | (refine wE3 ?_; intro _) | (refine wE4 ?_; intro _) | refine wN ?_ | ((with_reducible show evIs _ (_ :: _) _ _); first | refine wQ ?_ | refine wF ?_ | refine wG ?_ | refine wT ?_ | refine wM ?_ | refine wS ?_ | refine wP ?_ | refine wJ ?_ | refine wX ?_ | refine wY ?_ | refine wZ ?_ | refine wU ?_ | refine wCp ?_ | refine wCp0 ?_ | refine wApz ?_ | (refine wCap ?_; intro qc hqc)) | refine evDone ?_ | ((fail_if_success with_reducible show AW _ _ _ _ _); show AW _ _ _ _ _))
    clear hF
    try (show AW _ _ _ _ _)
    have hF := True.intro
    refine wC (hA := h15) ?_
    clear hF
    have hF := True.intro
    repeat (first | ((with_reducible show AW _ _ _ _ _); first | refine AW.seq ?_ | refine AW.block ?_ | refine AW.reg ?_ | refine AW.draw ?_ | refine wct ?_ | refine wcf ?_ | (refine AW.skip ?_; show AW _ _ _ _ _)) | refine wD1 ?_ | refine wD2 ?_ | refine wE1 ?_ | refine wE2 ?_ | (refine wE3 ?_; intro _) | (refine wE4 ?_; intro _) | refine wN ?_ | ((with_reducible show evIs _ (_ :: _) _ _); first | refine wQ ?_ | refine wF ?_ | refine wG ?_ | refine wT ?_ | refine wM ?_ | refine wS ?_ | refine wP ?_ | refine wJ ?_ | refine wX ?_ | refine wY ?_ | refine wZ ?_ | refine wU ?_ | refine wCp ?_ | refine wCp0 ?_ | refine wApz ?_ | (refine wCap ?_; intro qc hqc)) | refine evDone ?_ | ((fail_if_success with_reducible show AW _ _ _ _ _); show AW _ _ _ _ _))
    clear hF
    try (show AW _ _ _ _ _)
    have hF := And.intro (hcl) (hcs)
    refine wC (hA := h75) ?_
    clear hF
    have hF := True.intro
    repeat (first | ((with_reducible show AW _ _ _ _ _); first | refine AW.seq ?_ | refine AW.block ?_ | refine AW.reg ?_ | refine AW.draw ?_ | refine wct ?_ | refine wcf ?_ | (refine AW.skip ?_; show AW _ _ _ _ _)) | refine wD1 ?_ | refine wD2 ?_ | refine wE1 ?_ | refine wE2 ?_ | (refine wE3 ?_; intro _) | (refine wE4 ?_; intro _) | refine wN ?_ | ((with_reducible show evIs _ (_ :: _) _ _); first | refine wQ ?_ | refine wF ?_ | refine wG ?_ | refine wT ?_ | refine wM ?_ | refine wS ?_ | refine wP ?_ | refine wJ ?_ | refine wX ?_ | refine wY ?_ | refine wZ ?_ | refine wU ?_ | refine wCp ?_ | refine wCp0 ?_ | refine wApz ?_ | (refine wCap ?_; intro qc hqc)) | refine evDone ?_ | ((fail_if_success with_reducible show AW _ _ _ _ _); show AW _ _ _ _ _))
    clear hF
    try (show AW _ _ _ _ _)
    have hF := True.intro
    refine wC (hA := h67) ?_
    clear hF
    have hF := True.intro
    repeat (first | ((with_reducible show AW _ _ _ _ _); first | refine AW.seq ?_ | refine AW.block ?_ | refine AW.reg ?_ | refine AW.draw ?_ | refine wct ?_ | refine wcf ?_ | (refine AW.skip ?_; show AW _ _ _ _ _)) | refine wD1 ?_ | refine wD2 ?_ | refine wE1 ?_ | refine wE2 ?_ | (refine wE3 ?_; intro _) | (refine wE4 ?_; intro _) | refine wN ?_ | ((with_reducible show evIs _ (_ :: _) _ _); first | refine wQ ?_ | refine wF ?_ | refine wG ?_ | refine wT ?_ | refine wM ?_ | refine wS ?_ | refine wP ?_ | refine wJ ?_ | refine wX ?_ | refine wY ?_ | refine wZ ?_ | refine wU ?_ | refine wCp ?_ | refine wCp0 ?_ | refine wApz ?_ | (refine wCap ?_; intro qc hqc)) | refine evDone ?_ | ((fail_if_success with_reducible show AW _ _ _ _ _); show AW _ _ _ _ _))
    clear hF
    try (show AW _ _ _ _ _)
    refine AW.ret (retI rfl ?_)
    simp [a53_res, resOk, resP, resV, ARes.op, R2s, R2, R1s, R1, closeOk, closeV]
end Go.Proofs.Ytdnpnokplfemfaa
