/- Contracts of chapter 2's functions: slices.Insert. -/
import Derived.Test.YtdnpnokplfemfaaS1
import Derived.Test.YtdnpnokplfemfaaS6
import Derived.Test.YtdnpnokplfemfaaB2

set_option linter.unusedSimpArgs false
set_option linter.unusedVariables false
set_option maxHeartbeats 4000000
namespace Go.Proofs.Ytdnpnokplfemfaa
open Go Go.Amb Go.IntWalk

/-- Insert at an own row. -/
theorem f82 (N r : Nat) (A B : List AV) (s : ByteArray) (hr : r < N) (hl : (A.length + B.length + 1) * 16 ≤ 140737488355328) (hu : ∀ x ∈ A ++ B, (cellsOf x).length = 1) (hs : ∀ c ∈ flat (A ++ B), c.shr = true) :
    BCall Try.prog 82 [(r, ⟨1, false, A ++ B⟩)] N [.hdr r 0 (A.length + B.length), .int .i64 A.length, .sl .ext [.str s]]
      (fun H1 n' v => ∃ r' tl, H1 = [(r', ⟨1, false, A ++ .str s :: B ++ tl⟩)] ∧ (r' = r ∨ N ≤ r') ∧ r' < N + 100 ∧ n' = N + 100 ∧ v = .hdr r' 0 (A.length + B.length + 1)) := by
  have hl2 : A.length + B.length + 1 ≤ 9223372036854775807 := by omega
  have hrn : ∀ k, r < N + k := fun k => by omega
  have hne : ∀ k, ¬ r = N + k := fun k => by omega
  have hne' : ∀ k, ¬ N + k = r := fun k => by omega
  have h1 : (A.length : Int) ≤ (A.length : Int) + B.length := by omega
  have h1' : (A.length : Int) ≤ ((A.length + B.length : Nat) : Int) := by omega
  refine bcall_coded a82_ok (by simp) ?_
  have hF := And.intro (h1) (h1')
  repeat (first | ((with_reducible show AW _ _ _ _ _); first | refine AW.seq ?_ | refine AW.block ?_ | refine AW.reg ?_ | refine AW.draw ?_ | refine wct ?_ | refine wcf ?_ | (refine AW.skip ?_; show AW _ _ _ _ _)) | refine wD1 ?_ | refine wD2 ?_ | refine wE1 ?_ | refine wE2 ?_ | (refine wE3 ?_; intro _) | (refine wE4 ?_; intro _) | refine wN ?_ | ((with_reducible show evIs _ (_ :: _) _ _); first | refine wQ ?_ | refine wF ?_ | refine wG ?_ | refine wT ?_ | refine wM ?_ | refine wS ?_ | refine wP ?_ | refine wJ ?_ | refine wX ?_ | refine wY ?_ | refine wZ ?_ | refine wU ?_ | refine wCp ?_ | refine wCp0 ?_ | refine wApz ?_ | (refine wCap ?_; intro qc hqc)) | refine evDone ?_ | ((fail_if_success with_reducible show AW _ _ _ _ _); show AW _ _ _ _ _))
  clear hF
  try (show AW _ _ _ _ _)
  by_cases he : B = []
  · subst he
    simp only [List.append_nil] at hu hs ⊢
    simp only [List.length_nil, Nat.add_zero] at hl hl2 h1 h1' ⊢
    have hF := And.intro (hl) (And.intro (hl2) (eq_true hu))
    repeat (first | ((with_reducible show AW _ _ _ _ _); first | refine AW.seq ?_ | refine AW.block ?_ | refine AW.reg ?_ | refine AW.draw ?_ | refine wct ?_ | refine wcf ?_ | (refine AW.skip ?_; show AW _ _ _ _ _)) | refine wD1 ?_ | refine wD2 ?_ | refine wE1 ?_ | refine wE2 ?_ | (refine wE3 ?_; intro _) | (refine wE4 ?_; intro _) | refine wN ?_ | ((with_reducible show evIs _ (_ :: _) _ _); first | refine wQ ?_ | refine wF ?_ | refine wG ?_ | refine wT ?_ | refine wM ?_ | refine wS ?_ | refine wP ?_ | refine wJ ?_ | refine wX ?_ | refine wY ?_ | refine wZ ?_ | refine wU ?_ | refine wCp ?_ | refine wCp0 ?_ | refine wApz ?_ | (refine wCap ?_; intro qc hqc)) | refine evDone ?_ | ((fail_if_success with_reducible show AW _ _ _ _ _); show AW _ _ _ _ _))
    clear hF
    try (show AW _ _ _ _ _)
    refine AW.ret ⟨by simp [resP, a82_res, ARes.op], [(N + 19, ⟨1, false, A ++ [.str s]⟩)], N + 100, [.hdr (N + 19) 0 (A.length + 1)], ⟨N + 19, [], by simp, by omega, by omega, rfl, by simp [oneOf]⟩, by omega, by simp, rfl, by simp, ?_⟩
    simp only [resV, a82_res, List.map_cons, List.map_nil, ARes.op]
    refine Fit.mk _ _ _ (by simp [hrn, hne, hne', conv2, newEmp, convs_refl, convs, conv]) (by simp [hrn, hne, hne', heapFit, newEmp, conv2s, conv2, convs_refl, convs, conv]) (by intro q hq; first | (simp at hq; done) | (simp at hq; omega) | (simp at hq; simp; omega))
  have hb0 : 0 < B.length := List.length_pos_iff.2 he
  have he1 : ¬ (A.length : Int) = (A.length : Int) + B.length := by omega
  have he2 : ¬ (A.length : Int) = ((A.length + B.length : Nat) : Int) := by omega
  have hw : IntKind.i64.wrap (((A.length + B.length : Nat) : Int) + 1) = (A.length : Int) + B.length + 1 := by rw [show ((A.length + B.length : Nat) : Int) + 1 = (A.length : Int) + B.length + 1 by omega]; exact i64_in _ ⟨by omega, by omega⟩
  have hw1 : IntKind.i64.wrap ((A.length : Int) + B.length + 1) = (A.length : Int) + B.length + 1 := i64_in _ ⟨by omega, by omega⟩
  have hw2 : IntKind.i64.wrap ((A.length : Int) + 1) = (A.length : Int) + 1 := i64_in _ ⟨by omega, by omega⟩
  have hF := And.intro (he1) (he2)
  repeat (first | ((with_reducible show AW _ _ _ _ _); first | refine AW.seq ?_ | refine AW.block ?_ | refine AW.reg ?_ | refine AW.draw ?_ | refine wct ?_ | refine wcf ?_ | (refine AW.skip ?_; show AW _ _ _ _ _)) | refine wD1 ?_ | refine wD2 ?_ | refine wE1 ?_ | refine wE2 ?_ | (refine wE3 ?_; intro _) | (refine wE4 ?_; intro _) | refine wN ?_ | ((with_reducible show evIs _ (_ :: _) _ _); first | refine wQ ?_ | refine wF ?_ | refine wG ?_ | refine wT ?_ | refine wM ?_ | refine wS ?_ | refine wP ?_ | refine wJ ?_ | refine wX ?_ | refine wY ?_ | refine wZ ?_ | refine wU ?_ | refine wCp ?_ | refine wCp0 ?_ | refine wApz ?_ | (refine wCap ?_; intro qc hqc)) | refine evDone ?_ | ((fail_if_success with_reducible show AW _ _ _ _ _); show AW _ _ _ _ _))
  clear hF
  try (show AW _ _ _ _ _)
  have hq : A.length + B.length ≤ qc := by simpa [lenOf] using hqc
  have hT1 : ∀ (y : AV) (Z : List AV), (A ++ y :: Z).take (A.length + 1) = A ++ [y] := fun y Z => by rw [show A ++ y :: Z = (A ++ [y]) ++ Z by simp]; rw [List.take_append_of_le_length (by simp), List.take_of_length_le (by simp)]
  have hD1 : ∀ (y : AV) (Z : List AV), (A ++ y :: Z).drop (A.length + 1) = Z := fun y Z => by rw [show A ++ y :: Z = (A ++ [y]) ++ Z by simp]; rw [List.drop_append_of_le_length (by simp), List.drop_of_length_le (by simp)]; rfl
  by_cases hg : (qc : Int) < (A.length : Int) + B.length + 1
  · -- no room
    have hqe : qc = A.length + B.length := by omega
    subst hqe
    simp only [Nat.sub_self, List.replicate_zero, List.append_nil]
    have hw3 : IntKind.i64.wrap ((A.length : Int) + B.length + 1 - A.length) = (B.length : Int) + 1 := by rw [show (A.length : Int) + B.length + 1 - A.length = (B.length : Int) + 1 by omega]; exact i64_in _ ⟨by omega, by omega⟩
    have hm1 : ((B.length : Int) + 1).toNat = B.length + 1 := by omega
    have hb1 : (A.length + (B.length + 1)) * 16 ≤ 140737488355328 := by omega
    have hb2 : A.length + (B.length + 1) ≤ 9223372036854775807 := by omega
    have hb3 : A.length + B.length < A.length + (B.length + 1) := by omega
    have hb4 : (0 : Int) ≤ (B.length : Int) + 1 := by omega
    have hc1 : (A.length : Int) ≤ (A.length : Int) + ((B.length : Int) + 1) := by omega
    have hc2 : (A.length : Int) + 1 ≤ (A.length : Int) + ((B.length : Int) + 1) := by omega
    have hc3 : ((A.length : Int) + 1).toNat = A.length + 1 := by omega
    have hc4 : A.length + (B.length + 1) - (A.length + 1) = B.length := by omega
    have hc5 : Nat.min 1 (B.length + 1) = 1 := by simp only [Nat.min_def]; split <;> omega
    have hc6 : (0 : Int) ≤ (A.length : Int) + 1 := by omega
    have hc7 : A.length + 1 + B.length ≤ A.length + (B.length + 1) := by omega
    have hc9 : 0 < A.length + (B.length + 1) := by omega
    have hc11 : B.length + 1 ≤ 1 + B.length := by omega
    have hc10 : 0 < A.length + B.length := by omega
    have hc8 : (B.take B.length) = B := List.take_length
    have hs2 : ∀ c ∈ flat A, c.shr = true := fun c hc => hs c (by rw [flat_append]; exact List.mem_append_left _ hc)
    have hs3 : ∀ c ∈ flat B, c.shr = true := fun c hc => hs c (by rw [flat_append]; exact List.mem_append_right _ hc)
    have hg' : ((A.length + B.length : Nat) : Int) < (A.length : Int) + B.length + 1 := by omega
    have hr2 : List.replicate (B.length + 1) (.str ⟨#[]⟩ : AV) = .str ⟨#[]⟩ :: List.replicate B.length (.str ⟨#[]⟩) := rfl
    have hsA := hs2
    simp at hsA
    have hsB := hs3
    simp at hsB
    have ho := eq_true hsA
    have ho2 := eq_true hsB
    have hg3 : (A.length : Int) + B.length < (A.length : Int) + B.length + 1 := by omega
    have hF := And.intro (hne) (And.intro (hne') (And.intro (h1) (And.intro (h1') (And.intro (hw) (And.intro (hw1) (And.intro (hw2) (And.intro (hw3) (And.intro (hg) (And.intro (hg') (And.intro (hg3) (And.intro (hm1) (And.intro (hb1) (And.intro (hb2) (And.intro (hb3) (And.intro (hb4) (And.intro (hc1) (And.intro (hc2) (And.intro (hc3) (And.intro (hc4) (And.intro (hc5) (And.intro (hc6) (And.intro (hc7) (And.intro (hc8) (And.intro (hc9) (And.intro (hc10) (And.intro (ho) (And.intro (ho2) (And.intro (hr2) (And.intro (hT1) (hD1))))))))))))))))))))))))))))))
    repeat (first | ((with_reducible show AW _ _ _ _ _); first | refine AW.seq ?_ | refine AW.block ?_ | refine AW.reg ?_ | refine AW.draw ?_ | refine wct ?_ | refine wcf ?_ | (refine AW.skip ?_; show AW _ _ _ _ _)) | refine wD1 ?_ | refine wD2 ?_ | refine wE1 ?_ | refine wE2 ?_ | (refine wE3 ?_; intro _) | (refine wE4 ?_; intro _) | refine wN ?_ | ((with_reducible show evIs _ (_ :: _) _ _); first | refine wQ ?_ | refine wF ?_ | refine wG ?_ | refine wT ?_ | refine wM ?_ | refine wS ?_ | refine wP ?_ | refine wJ ?_ | refine wX ?_ | refine wY ?_ | refine wZ ?_ | refine wU ?_ | refine wCp ?_ | refine wCp0 ?_ | refine wApz ?_ | (refine wCap ?_; intro qc hqc)) | refine evDone ?_ | ((fail_if_success with_reducible show AW _ _ _ _ _); show AW _ _ _ _ _))
    clear hF
    try (show AW _ _ _ _ _)
    refine AW.ret ⟨by simp [resP, a82_res, ARes.op], [(N + 35, ⟨1, false, A ++ .str s :: B⟩)], N + 100, [.hdr (N + 35) 0 (A.length + B.length + 1)], ⟨N + 35, [], by simp, by omega, by omega, rfl, by simp [oneOf]⟩, by omega, by simp, rfl, by simp, ?_⟩
    simp only [resV, a82_res, List.map_cons, List.map_nil, ARes.op]
    refine Fit.mk _ _ _ (by simp [hrn, hne, hne', Nat.add_assoc, hc11, conv2, newEmp, convs_refl, convs, conv]) (by simp [hrn, hne, hne', Nat.add_assoc, hc11, heapFit, newEmp, conv2s, conv2, convs_refl, convs, conv]) (by intro q hq; first | (simp at hq; done) | (simp at hq; omega) | (simp at hq; simp; omega))
  · -- room
    obtain ⟨tt, ht⟩ : ∃ tt, qc = A.length + B.length + 1 + tt := ⟨qc - (A.length + B.length + 1), by omega⟩
    subst ht
    have hsl : A.length + B.length + 1 + tt - (A.length + B.length) = tt + 1 := by omega
    rw [hsl, show List.replicate (tt + 1) (AV.anyc) = AV.anyc :: List.replicate tt (AV.anyc) from rfl]
    have hTl : (List.replicate tt (AV.anyc)).length = tt := by simp
    generalize List.replicate tt (AV.anyc) = T at hTl ⊢
    have hg3 : ¬ ((A.length : Int) + B.length + 1 + tt < (A.length : Int) + B.length + 1) := by omega
    have hs3 : ∀ c ∈ flat (B ++ [AV.anyc]), c.shr = true := fun c hc => by
      rw [flat_append] at hc
      rcases List.mem_append.1 hc with hc | hc
      · exact hs c (by rw [flat_append]; exact List.mem_append_right _ hc)
      · simp [flat, cellsOf] at hc; simp [hc]
    simp at hs3
    have ho := eq_true hs3
    have hd1 : ((A.length : Int) + B.length + 1).toNat = A.length + B.length + 1 := by omega
    have hd2 : (0 : Int) ≤ (A.length : Int) + B.length + 1 := by omega
    have hd3 : (A.length : Int) + B.length + 1 ≤ (A.length : Int) + ((B.length : Int) + ((tt : Int) + 1)) := by omega
    have hd3' : (A.length : Int) + B.length + 1 ≤ (A.length : Int) + ((B.length : Int) + 1 + tt) := by omega
    have hd4 : ((A.length : Int) + 1).toNat = A.length + 1 := by omega
    have hd5 : (0 : Int) ≤ (A.length : Int) + 1 := by omega
    have hd6 : (A.length : Int) + 1 ≤ (A.length : Int) + B.length + 1 := by omega
    have hd7 : A.length + B.length + 1 - (A.length + 1) = B.length := by omega
    have hd8 : A.length + B.length + 1 - A.length = B.length + 1 := by omega
    have hd9 : (A.length : Int) ≤ (A.length : Int) + B.length + 1 := by omega
    have hda : (B ++ AV.anyc :: T).take (B.length + 1) = B ++ [AV.anyc] := by rw [show B ++ AV.anyc :: T = (B ++ [AV.anyc]) ++ T by simp, List.take_append_of_le_length (by simp), List.take_of_length_le (by simp)]
    have hdb : Nat.min (B.length + 1) B.length = B.length := by simp only [Nat.min_def]; split <;> omega
    have hdc : Nat.min 1 (B.length + 1) = 1 := by simp only [Nat.min_def]; split <;> omega
    have hdd : 0 < A.length + (B.length + (tt + 1)) := by omega
    have hde : A.length + 1 + B.length ≤ A.length + (B.length + (tt + 1)) := by omega
    have hdf : A.length + (B.length + 1) ≤ A.length + (B.length + (tt + 1)) := by omega
    have hF := And.intro (hne) (And.intro (hne') (And.intro (hg3) (And.intro (hw) (And.intro (hw1) (And.intro (hw2) (And.intro (hT1) (And.intro (hD1) (And.intro (hTl) (And.intro (hd1) (And.intro (hd2) (And.intro (hd3) (And.intro (hd3') (And.intro (hd4) (And.intro (hd5) (And.intro (hd6) (And.intro (hd7) (And.intro (hd8) (And.intro (hd9) (And.intro (hda) (And.intro (hdb) (And.intro (hdc) (And.intro (hdd) (And.intro (hde) (And.intro (hdf) (ho)))))))))))))))))))))))))
    repeat (first | ((with_reducible show AW _ _ _ _ _); first | refine AW.seq ?_ | refine AW.block ?_ | refine AW.reg ?_ | refine AW.draw ?_ | refine wct ?_ | refine wcf ?_ | (refine AW.skip ?_; show AW _ _ _ _ _)) | refine wD1 ?_ | refine wD2 ?_ | refine wE1 ?_ | refine wE2 ?_ | (refine wE3 ?_; intro _) | (refine wE4 ?_; intro _) | refine wN ?_ | ((with_reducible show evIs _ (_ :: _) _ _); first | refine wQ ?_ | refine wF ?_ | refine wG ?_ | refine wT ?_ | refine wM ?_ | refine wS ?_ | refine wP ?_ | refine wJ ?_ | refine wX ?_ | refine wY ?_ | refine wZ ?_ | refine wU ?_ | refine wCp ?_ | refine wCp0 ?_ | refine wApz ?_ | (refine wCap ?_; intro qc hqc)) | refine evDone ?_ | ((fail_if_success with_reducible show AW _ _ _ _ _); show AW _ _ _ _ _))
    clear hF
    try (show AW _ _ _ _ _)
    have hU1 : (List.take (A.length + 1) (A ++ (B ++ AV.anyc :: T))).length = A.length + 1 := by simp; omega
    have hU2 : (List.take (A.length + 1) (A ++ (B ++ AV.anyc :: T))).take A.length = A := by rw [List.take_take, Nat.min_eq_left (by omega), List.take_left]
    have hV : (List.drop (A.length + 1 + B.length) (A ++ (B ++ AV.anyc :: T))).length = tt := by simp; omega
    generalize List.take (A.length + 1) (A ++ (B ++ AV.anyc :: T)) = U at hU1 hU2 ⊢
    generalize List.drop (A.length + 1 + B.length) (A ++ (B ++ AV.anyc :: T)) = V at hV ⊢
    have hU3 : ∀ Z, (U ++ Z).take A.length = A := by intro Z; rw [List.take_append_of_le_length (by omega), hU2]
    have hU4 : ∀ Z, (U ++ Z).drop (A.length + 1) = Z := by intro Z; rw [← hU1]; exact List.drop_left
    have hv1 : 0 < A.length + 1 + (B.length + tt) := by omega
    have hv2 : A.length + (B.length + 1) ≤ A.length + 1 + (B.length + tt) := by omega
    have hF := And.intro (hne) (And.intro (hne') (And.intro (hU1) (And.intro (hU3) (And.intro (hU4) (And.intro (hV) (And.intro (hdc) (And.intro (hv1) (hv2))))))))
    repeat (first | ((with_reducible show AW _ _ _ _ _); first | refine AW.seq ?_ | refine AW.block ?_ | refine AW.reg ?_ | refine AW.draw ?_ | refine wct ?_ | refine wcf ?_ | (refine AW.skip ?_; show AW _ _ _ _ _)) | refine wD1 ?_ | refine wD2 ?_ | refine wE1 ?_ | refine wE2 ?_ | (refine wE3 ?_; intro _) | (refine wE4 ?_; intro _) | refine wN ?_ | ((with_reducible show evIs _ (_ :: _) _ _); first | refine wQ ?_ | refine wF ?_ | refine wG ?_ | refine wT ?_ | refine wM ?_ | refine wS ?_ | refine wP ?_ | refine wJ ?_ | refine wX ?_ | refine wY ?_ | refine wZ ?_ | refine wU ?_ | refine wCp ?_ | refine wCp0 ?_ | refine wApz ?_ | (refine wCap ?_; intro qc hqc)) | refine evDone ?_ | ((fail_if_success with_reducible show AW _ _ _ _ _); show AW _ _ _ _ _))
    clear hF
    try (show AW _ _ _ _ _)
    refine AW.ret ⟨by simp [resP, a82_res, ARes.op], [(r, ⟨1, false, A ++ .str s :: B ++ V⟩)], N + 100, [.hdr r 0 (A.length + B.length + 1)], ⟨r, V, rfl, by simp, by omega, rfl, by simp [oneOf]⟩, by omega, by simp, rfl, by simp, ?_⟩
    simp only [resV, a82_res, List.map_cons, List.map_nil, ARes.op]
    refine Fit.mk _ _ _ (by simp [hrn, hne, hne', Nat.add_assoc, conv2, newEmp, convs_refl, convs, conv]) (by simp [hrn, hne, hne', Nat.add_assoc, heapFit, newEmp, conv2s, conv2, convs_refl, convs, conv]) (by intro q hq; first | (simp at hq; done) | (simp at hq; omega) | (simp at hq; simp; omega))
abbrev zV : AV := .agg [.int .i64 0, .int .i64 0, .str ⟨#[]⟩, .sl .fro [], .sl .fro []]
abbrev sV : AV := .agg [.anyc, .anyc, .anyc, .anyc, .anyc]
/-- Insert at an own row. -/
theorem f83 (N r : Nat) (A B : List AV) (k n : Int) (t : ByteArray) (is ks : List AV) (hr : r < N) (hl : (A.length + B.length + 1) * 80 ≤ 140737488355328) (hu : ∀ x ∈ A ++ B, (cellsOf x).length = 5) (hs : ∀ c ∈ flat (A ++ B), c.shr = true) :
    BCall Try.prog 83 [(r, ⟨5, false, A ++ B⟩)] N [.hdr r 0 (A.length + B.length), .int .i64 A.length, .sl .ext [.agg [.int .i64 k, .int .i64 n, .str t, .sl .fro is, .sl .fro ks]]]
      (fun H1 n' v => ∃ r' tl, H1 = [(r', ⟨5, false, A ++ .agg [.int .i64 k, .int .i64 n, .str t, .sl .fro is, .sl .fro ks] :: B ++ tl⟩)] ∧ (r' = r ∨ N ≤ r') ∧ r' < N + 100 ∧ n' = N + 100 ∧ v = .hdr r' 0 (A.length + B.length + 1)) := by
  have hl2 : A.length + B.length + 1 ≤ 9223372036854775807 := by omega
  have hrn : ∀ k, r < N + k := fun k => by omega
  have hne : ∀ k, ¬ r = N + k := fun k => by omega
  have hne' : ∀ k, ¬ N + k = r := fun k => by omega
  have h1 : (A.length : Int) ≤ (A.length : Int) + B.length := by omega
  have h1' : (A.length : Int) ≤ ((A.length + B.length : Nat) : Int) := by omega
  refine bcall_coded a83_ok (by simp) ?_
  have hF := And.intro (h1) (h1')
  repeat (first | ((with_reducible show AW _ _ _ _ _); first | refine AW.seq ?_ | refine AW.block ?_ | refine AW.reg ?_ | refine AW.draw ?_ | refine wct ?_ | refine wcf ?_ | (refine AW.skip ?_; show AW _ _ _ _ _)) | refine wD1 ?_ | refine wD2 ?_ | refine wE1 ?_ | refine wE2 ?_ | (refine wE3 ?_; intro _) | (refine wE4 ?_; intro _) | refine wN ?_ | ((with_reducible show evIs _ (_ :: _) _ _); first | refine wQ ?_ | refine wF ?_ | refine wG ?_ | refine wT ?_ | refine wM ?_ | refine wS ?_ | refine wP ?_ | refine wJ ?_ | refine wX ?_ | refine wY ?_ | refine wZ ?_ | refine wU ?_ | refine wCp ?_ | refine wCp0 ?_ | refine wApz ?_ | (refine wCap ?_; intro qc hqc)) | refine evDone ?_ | ((fail_if_success with_reducible show AW _ _ _ _ _); show AW _ _ _ _ _))
  clear hF
  try (show AW _ _ _ _ _)
  by_cases he : B = []
  · subst he
    simp only [List.append_nil] at hu hs ⊢
    simp only [List.length_nil, Nat.add_zero] at hl hl2 h1 h1' ⊢
    have hF := And.intro (hl) (And.intro (hl2) (eq_true hu))
    repeat (first | ((with_reducible show AW _ _ _ _ _); first | refine AW.seq ?_ | refine AW.block ?_ | refine AW.reg ?_ | refine AW.draw ?_ | refine wct ?_ | refine wcf ?_ | (refine AW.skip ?_; show AW _ _ _ _ _)) | refine wD1 ?_ | refine wD2 ?_ | refine wE1 ?_ | refine wE2 ?_ | (refine wE3 ?_; intro _) | (refine wE4 ?_; intro _) | refine wN ?_ | ((with_reducible show evIs _ (_ :: _) _ _); first | refine wQ ?_ | refine wF ?_ | refine wG ?_ | refine wT ?_ | refine wM ?_ | refine wS ?_ | refine wP ?_ | refine wJ ?_ | refine wX ?_ | refine wY ?_ | refine wZ ?_ | refine wU ?_ | refine wCp ?_ | refine wCp0 ?_ | refine wApz ?_ | (refine wCap ?_; intro qc hqc)) | refine evDone ?_ | ((fail_if_success with_reducible show AW _ _ _ _ _); show AW _ _ _ _ _))
    clear hF
    try (show AW _ _ _ _ _)
    refine AW.ret ⟨by simp [resP, a83_res, ARes.op], [(N + 19, ⟨5, false, A ++ [.agg [.int .i64 k, .int .i64 n, .str t, .sl .fro is, .sl .fro ks]]⟩)], N + 100, [.hdr (N + 19) 0 (A.length + 1)], ⟨N + 19, [], by simp, by omega, by omega, rfl, by simp [oneOf]⟩, by omega, by simp, rfl, by simp, ?_⟩
    simp only [resV, a83_res, List.map_cons, List.map_nil, ARes.op]
    refine Fit.mk _ _ _ (by simp [hrn, hne, hne', conv2, newEmp, convs_refl, convs, conv]) (by simp [hrn, hne, hne', heapFit, newEmp, conv2s, conv2, convs_refl, convs, conv]) (by intro q hq; first | (simp at hq; done) | (simp at hq; omega) | (simp at hq; simp; omega))
  have hb0 : 0 < B.length := List.length_pos_iff.2 he
  have he1 : ¬ (A.length : Int) = (A.length : Int) + B.length := by omega
  have he2 : ¬ (A.length : Int) = ((A.length + B.length : Nat) : Int) := by omega
  have hw : IntKind.i64.wrap (((A.length + B.length : Nat) : Int) + 1) = (A.length : Int) + B.length + 1 := by rw [show ((A.length + B.length : Nat) : Int) + 1 = (A.length : Int) + B.length + 1 by omega]; exact i64_in _ ⟨by omega, by omega⟩
  have hw1 : IntKind.i64.wrap ((A.length : Int) + B.length + 1) = (A.length : Int) + B.length + 1 := i64_in _ ⟨by omega, by omega⟩
  have hw2 : IntKind.i64.wrap ((A.length : Int) + 1) = (A.length : Int) + 1 := i64_in _ ⟨by omega, by omega⟩
  have hF := And.intro (he1) (he2)
  repeat (first | ((with_reducible show AW _ _ _ _ _); first | refine AW.seq ?_ | refine AW.block ?_ | refine AW.reg ?_ | refine AW.draw ?_ | refine wct ?_ | refine wcf ?_ | (refine AW.skip ?_; show AW _ _ _ _ _)) | refine wD1 ?_ | refine wD2 ?_ | refine wE1 ?_ | refine wE2 ?_ | (refine wE3 ?_; intro _) | (refine wE4 ?_; intro _) | refine wN ?_ | ((with_reducible show evIs _ (_ :: _) _ _); first | refine wQ ?_ | refine wF ?_ | refine wG ?_ | refine wT ?_ | refine wM ?_ | refine wS ?_ | refine wP ?_ | refine wJ ?_ | refine wX ?_ | refine wY ?_ | refine wZ ?_ | refine wU ?_ | refine wCp ?_ | refine wCp0 ?_ | refine wApz ?_ | (refine wCap ?_; intro qc hqc)) | refine evDone ?_ | ((fail_if_success with_reducible show AW _ _ _ _ _); show AW _ _ _ _ _))
  clear hF
  try (show AW _ _ _ _ _)
  have hq : A.length + B.length ≤ qc := by simpa [lenOf] using hqc
  have hT1 : ∀ (y : AV) (Z : List AV), (A ++ y :: Z).take (A.length + 1) = A ++ [y] := fun y Z => by rw [show A ++ y :: Z = (A ++ [y]) ++ Z by simp]; rw [List.take_append_of_le_length (by simp), List.take_of_length_le (by simp)]
  have hD1 : ∀ (y : AV) (Z : List AV), (A ++ y :: Z).drop (A.length + 1) = Z := fun y Z => by rw [show A ++ y :: Z = (A ++ [y]) ++ Z by simp]; rw [List.drop_append_of_le_length (by simp), List.drop_of_length_le (by simp)]; rfl
  by_cases hg : (qc : Int) < (A.length : Int) + B.length + 1
  · -- no room
    have hqe : qc = A.length + B.length := by omega
    subst hqe
    simp only [Nat.sub_self, List.replicate_zero, List.append_nil]
    have hw3 : IntKind.i64.wrap ((A.length : Int) + B.length + 1 - A.length) = (B.length : Int) + 1 := by rw [show (A.length : Int) + B.length + 1 - A.length = (B.length : Int) + 1 by omega]; exact i64_in _ ⟨by omega, by omega⟩
    have hm1 : ((B.length : Int) + 1).toNat = B.length + 1 := by omega
    have hb1 : (A.length + (B.length + 1)) * 80 ≤ 140737488355328 := by omega
    have hb2 : A.length + (B.length + 1) ≤ 9223372036854775807 := by omega
    have hb3 : A.length + B.length < A.length + (B.length + 1) := by omega
    have hb4 : (0 : Int) ≤ (B.length : Int) + 1 := by omega
    have hc1 : (A.length : Int) ≤ (A.length : Int) + ((B.length : Int) + 1) := by omega
    have hc2 : (A.length : Int) + 1 ≤ (A.length : Int) + ((B.length : Int) + 1) := by omega
    have hc3 : ((A.length : Int) + 1).toNat = A.length + 1 := by omega
    have hc4 : A.length + (B.length + 1) - (A.length + 1) = B.length := by omega
    have hc5 : Nat.min 1 (B.length + 1) = 1 := by simp only [Nat.min_def]; split <;> omega
    have hc6 : (0 : Int) ≤ (A.length : Int) + 1 := by omega
    have hc7 : A.length + 1 + B.length ≤ A.length + (B.length + 1) := by omega
    have hc9 : 0 < A.length + (B.length + 1) := by omega
    have hc11 : B.length + 1 ≤ 1 + B.length := by omega
    have hc10 : 0 < A.length + B.length := by omega
    have hc8 : (B.take B.length) = B := List.take_length
    have hs2 : ∀ c ∈ flat A, c.shr = true := fun c hc => hs c (by rw [flat_append]; exact List.mem_append_left _ hc)
    have hs3 : ∀ c ∈ flat B, c.shr = true := fun c hc => hs c (by rw [flat_append]; exact List.mem_append_right _ hc)
    have hg' : ((A.length + B.length : Nat) : Int) < (A.length : Int) + B.length + 1 := by omega
    have hr2 : List.replicate (B.length + 1) (AV.agg [.int .i64 0, .int .i64 0, .str ⟨#[]⟩, .sl .fro [], .sl .fro []] : AV) = AV.agg [.int .i64 0, .int .i64 0, .str ⟨#[]⟩, .sl .fro [], .sl .fro []] :: List.replicate B.length (AV.agg [.int .i64 0, .int .i64 0, .str ⟨#[]⟩, .sl .fro [], .sl .fro []]) := rfl
    have hsA := hs2
    simp at hsA
    have hsB := hs3
    simp at hsB
    have ho := eq_true hsA
    have ho2 := eq_true hsB
    have hg3 : (A.length : Int) + B.length < (A.length : Int) + B.length + 1 := by omega
    have hF := And.intro (hne) (And.intro (hne') (And.intro (h1) (And.intro (h1') (And.intro (hw) (And.intro (hw1) (And.intro (hw2) (And.intro (hw3) (And.intro (hg) (And.intro (hg') (And.intro (hg3) (And.intro (hm1) (And.intro (hb1) (And.intro (hb2) (And.intro (hb3) (And.intro (hb4) (And.intro (hc1) (And.intro (hc2) (And.intro (hc3) (And.intro (hc4) (And.intro (hc5) (And.intro (hc6) (And.intro (hc7) (And.intro (hc8) (And.intro (hc9) (And.intro (hc10) (And.intro (ho) (And.intro (ho2) (And.intro (hr2) (And.intro (hT1) (hD1))))))))))))))))))))))))))))))
    repeat (first | ((with_reducible show AW _ _ _ _ _); first | refine AW.seq ?_ | refine AW.block ?_ | refine AW.reg ?_ | refine AW.draw ?_ | refine wct ?_ | refine wcf ?_ | (refine AW.skip ?_; show AW _ _ _ _ _)) | refine wD1 ?_ | refine wD2 ?_ | refine wE1 ?_ | refine wE2 ?_ | (refine wE3 ?_; intro _) | (refine wE4 ?_; intro _) | refine wN ?_ | ((with_reducible show evIs _ (_ :: _) _ _); first | refine wQ ?_ | refine wF ?_ | refine wG ?_ | refine wT ?_ | refine wM ?_ | refine wS ?_ | refine wP ?_ | refine wJ ?_ | refine wX ?_ | refine wY ?_ | refine wZ ?_ | refine wU ?_ | refine wCp ?_ | refine wCp0 ?_ | refine wApz ?_ | (refine wCap ?_; intro qc hqc)) | refine evDone ?_ | ((fail_if_success with_reducible show AW _ _ _ _ _); show AW _ _ _ _ _))
    clear hF
    try (show AW _ _ _ _ _)
    refine AW.ret ⟨by simp [resP, a83_res, ARes.op], [(N + 35, ⟨5, false, A ++ .agg [.int .i64 k, .int .i64 n, .str t, .sl .fro is, .sl .fro ks] :: B⟩)], N + 100, [.hdr (N + 35) 0 (A.length + B.length + 1)], ⟨N + 35, [], by simp, by omega, by omega, rfl, by simp [oneOf]⟩, by omega, by simp, rfl, by simp, ?_⟩
    simp only [resV, a83_res, List.map_cons, List.map_nil, ARes.op]
    refine Fit.mk _ _ _ (by simp [hrn, hne, hne', Nat.add_assoc, hc11, conv2, newEmp, convs_refl, convs, conv]) (by simp [hrn, hne, hne', Nat.add_assoc, hc11, heapFit, newEmp, conv2s, conv2, convs_refl, convs, conv]) (by intro q hq; first | (simp at hq; done) | (simp at hq; omega) | (simp at hq; simp; omega))
  · -- room
    obtain ⟨tt, ht⟩ : ∃ tt, qc = A.length + B.length + 1 + tt := ⟨qc - (A.length + B.length + 1), by omega⟩
    subst ht
    have hsl : A.length + B.length + 1 + tt - (A.length + B.length) = tt + 1 := by omega
    rw [hsl, show List.replicate (tt + 1) (AV.agg [.anyc, .anyc, .anyc, .anyc, .anyc]) = AV.agg [.anyc, .anyc, .anyc, .anyc, .anyc] :: List.replicate tt (AV.agg [.anyc, .anyc, .anyc, .anyc, .anyc]) from rfl]
    have hTl : (List.replicate tt (AV.agg [.anyc, .anyc, .anyc, .anyc, .anyc])).length = tt := by simp
    generalize List.replicate tt (AV.agg [.anyc, .anyc, .anyc, .anyc, .anyc]) = T at hTl ⊢
    have hg3 : ¬ ((A.length : Int) + B.length + 1 + tt < (A.length : Int) + B.length + 1) := by omega
    have hs3 : ∀ c ∈ flat (B ++ [AV.agg [.anyc, .anyc, .anyc, .anyc, .anyc]]), c.shr = true := fun c hc => by
      rw [flat_append] at hc
      rcases List.mem_append.1 hc with hc | hc
      · exact hs c (by rw [flat_append]; exact List.mem_append_right _ hc)
      · simp [flat, cellsOf] at hc; simp [hc]
    simp at hs3
    have ho := eq_true hs3
    have hd1 : ((A.length : Int) + B.length + 1).toNat = A.length + B.length + 1 := by omega
    have hd2 : (0 : Int) ≤ (A.length : Int) + B.length + 1 := by omega
    have hd3 : (A.length : Int) + B.length + 1 ≤ (A.length : Int) + ((B.length : Int) + ((tt : Int) + 1)) := by omega
    have hd3' : (A.length : Int) + B.length + 1 ≤ (A.length : Int) + ((B.length : Int) + 1 + tt) := by omega
    have hd4 : ((A.length : Int) + 1).toNat = A.length + 1 := by omega
    have hd5 : (0 : Int) ≤ (A.length : Int) + 1 := by omega
    have hd6 : (A.length : Int) + 1 ≤ (A.length : Int) + B.length + 1 := by omega
    have hd7 : A.length + B.length + 1 - (A.length + 1) = B.length := by omega
    have hd8 : A.length + B.length + 1 - A.length = B.length + 1 := by omega
    have hd9 : (A.length : Int) ≤ (A.length : Int) + B.length + 1 := by omega
    have hda : (B ++ AV.agg [.anyc, .anyc, .anyc, .anyc, .anyc] :: T).take (B.length + 1) = B ++ [AV.agg [.anyc, .anyc, .anyc, .anyc, .anyc]] := by rw [show B ++ AV.agg [.anyc, .anyc, .anyc, .anyc, .anyc] :: T = (B ++ [AV.agg [.anyc, .anyc, .anyc, .anyc, .anyc]]) ++ T by simp, List.take_append_of_le_length (by simp), List.take_of_length_le (by simp)]
    have hdb : Nat.min (B.length + 1) B.length = B.length := by simp only [Nat.min_def]; split <;> omega
    have hdc : Nat.min 1 (B.length + 1) = 1 := by simp only [Nat.min_def]; split <;> omega
    have hdd : 0 < A.length + (B.length + (tt + 1)) := by omega
    have hde : A.length + 1 + B.length ≤ A.length + (B.length + (tt + 1)) := by omega
    have hdf : A.length + (B.length + 1) ≤ A.length + (B.length + (tt + 1)) := by omega
    have hF := And.intro (hne) (And.intro (hne') (And.intro (hg3) (And.intro (hw) (And.intro (hw1) (And.intro (hw2) (And.intro (hT1) (And.intro (hD1) (And.intro (hTl) (And.intro (hd1) (And.intro (hd2) (And.intro (hd3) (And.intro (hd3') (And.intro (hd4) (And.intro (hd5) (And.intro (hd6) (And.intro (hd7) (And.intro (hd8) (And.intro (hd9) (And.intro (hda) (And.intro (hdb) (And.intro (hdc) (And.intro (hdd) (And.intro (hde) (And.intro (hdf) (ho)))))))))))))))))))))))))
    repeat (first | ((with_reducible show AW _ _ _ _ _); first | refine AW.seq ?_ | refine AW.block ?_ | refine AW.reg ?_ | refine AW.draw ?_ | refine wct ?_ | refine wcf ?_ | (refine AW.skip ?_; show AW _ _ _ _ _)) | refine wD1 ?_ | refine wD2 ?_ | refine wE1 ?_ | refine wE2 ?_ | (refine wE3 ?_; intro _) | (refine wE4 ?_; intro _) | refine wN ?_ | ((with_reducible show evIs _ (_ :: _) _ _); first | refine wQ ?_ | refine wF ?_ | refine wG ?_ | refine wT ?_ | refine wM ?_ | refine wS ?_ | refine wP ?_ | refine wJ ?_ | refine wX ?_ | refine wY ?_ | refine wZ ?_ | refine wU ?_ | refine wCp ?_ | refine wCp0 ?_ | refine wApz ?_ | (refine wCap ?_; intro qc hqc)) | refine evDone ?_ | ((fail_if_success with_reducible show AW _ _ _ _ _); show AW _ _ _ _ _))
    clear hF
    try (show AW _ _ _ _ _)
    have hU1 : (List.take (A.length + 1) (A ++ (B ++ AV.agg [.anyc, .anyc, .anyc, .anyc, .anyc] :: T))).length = A.length + 1 := by simp; omega
    have hU2 : (List.take (A.length + 1) (A ++ (B ++ AV.agg [.anyc, .anyc, .anyc, .anyc, .anyc] :: T))).take A.length = A := by rw [List.take_take, Nat.min_eq_left (by omega), List.take_left]
    have hV : (List.drop (A.length + 1 + B.length) (A ++ (B ++ AV.agg [.anyc, .anyc, .anyc, .anyc, .anyc] :: T))).length = tt := by simp; omega
    generalize List.take (A.length + 1) (A ++ (B ++ AV.agg [.anyc, .anyc, .anyc, .anyc, .anyc] :: T)) = U at hU1 hU2 ⊢
    generalize List.drop (A.length + 1 + B.length) (A ++ (B ++ AV.agg [.anyc, .anyc, .anyc, .anyc, .anyc] :: T)) = V at hV ⊢
    have hU3 : ∀ Z, (U ++ Z).take A.length = A := by intro Z; rw [List.take_append_of_le_length (by omega), hU2]
    have hU4 : ∀ Z, (U ++ Z).drop (A.length + 1) = Z := by intro Z; rw [← hU1]; exact List.drop_left
    have hv1 : 0 < A.length + 1 + (B.length + tt) := by omega
    have hv2 : A.length + (B.length + 1) ≤ A.length + 1 + (B.length + tt) := by omega
    have hF := And.intro (hne) (And.intro (hne') (And.intro (hU1) (And.intro (hU3) (And.intro (hU4) (And.intro (hV) (And.intro (hdc) (And.intro (hv1) (hv2))))))))
    repeat (first | ((with_reducible show AW _ _ _ _ _); first | refine AW.seq ?_ | refine AW.block ?_ | refine AW.reg ?_ | refine AW.draw ?_ | refine wct ?_ | refine wcf ?_ | (refine AW.skip ?_; show AW _ _ _ _ _)) | refine wD1 ?_ | refine wD2 ?_ | refine wE1 ?_ | refine wE2 ?_ | (refine wE3 ?_; intro _) | (refine wE4 ?_; intro _) | refine wN ?_ | ((with_reducible show evIs _ (_ :: _) _ _); first | refine wQ ?_ | refine wF ?_ | refine wG ?_ | refine wT ?_ | refine wM ?_ | refine wS ?_ | refine wP ?_ | refine wJ ?_ | refine wX ?_ | refine wY ?_ | refine wZ ?_ | refine wU ?_ | refine wCp ?_ | refine wCp0 ?_ | refine wApz ?_ | (refine wCap ?_; intro qc hqc)) | refine evDone ?_ | ((fail_if_success with_reducible show AW _ _ _ _ _); show AW _ _ _ _ _))
    clear hF
    try (show AW _ _ _ _ _)
    refine AW.ret ⟨by simp [resP, a83_res, ARes.op], [(r, ⟨5, false, A ++ .agg [.int .i64 k, .int .i64 n, .str t, .sl .fro is, .sl .fro ks] :: B ++ V⟩)], N + 100, [.hdr r 0 (A.length + B.length + 1)], ⟨r, V, rfl, by simp, by omega, rfl, by simp [oneOf]⟩, by omega, by simp, rfl, by simp, ?_⟩
    simp only [resV, a83_res, List.map_cons, List.map_nil, ARes.op]
    refine Fit.mk _ _ _ (by simp [hrn, hne, hne', Nat.add_assoc, conv2, newEmp, convs_refl, convs, conv]) (by simp [hrn, hne, hne', Nat.add_assoc, heapFit, newEmp, conv2s, conv2, convs_refl, convs, conv]) (by intro q hq; first | (simp at hq; done) | (simp at hq; omega) | (simp at hq; simp; omega))
end Go.Proofs.Ytdnpnokplfemfaa

set_option linter.unusedSimpArgs false
set_option linter.unusedVariables false
set_option maxHeartbeats 8000000
namespace Go.Proofs.Ytdnpnokplfemfaa
open Go Go.Amb Go.IntWalk

abbrev strs (ks : List ByteArray) : List AV := ks.map AV.str
theorem f108 (ks : List ByteArray) (p : ByteArray) (pos : Nat) (hl : ks.length ≤ 1000000000) (hpos : pos ≤ ks.length) (hsp : ∀ (h : Nat) (k : ByteArray), ks[h]? = some k → Op.bytesLess k.toList p.toList = decide (h < pos)) :
    ACall Try.prog 108 [.sl .fro (strs ks), .str p] (· = .tup [.int .i64 pos, .bool (decide (ks[pos]? = some p))]) := by
  have h134 := fun s => f134 s
  have h133 := fun s => f133 s p
  refine a108_of (by simp) ?_
  have hF := True.intro
  repeat (first | ((with_reducible show AW _ _ _ _ _); first | refine AW.seq ?_ | refine AW.block ?_ | refine AW.reg ?_ | refine AW.draw ?_ | refine wct ?_ | refine wcf ?_ | (refine AW.skip ?_; show AW _ _ _ _ _)) | refine wD1 ?_ | refine wD2 ?_ | refine wE1 ?_ | refine wE2 ?_ | (refine wE3 ?_; intro _) | (refine wE4 ?_; intro _) | refine wN ?_ | ((with_reducible show evIs _ (_ :: _) _ _); first | refine wQ ?_ | refine wF ?_ | refine wG ?_ | refine wT ?_ | refine wM ?_ | refine wS ?_ | refine wP ?_ | refine wJ ?_ | refine wX ?_ | refine wY ?_ | refine wZ ?_ | refine wU ?_ | refine wCp ?_ | refine wCp0 ?_ | refine wApz ?_ | (refine wCap ?_; intro qc hqc)) | refine evDone ?_ | ((fail_if_success with_reducible show AW _ _ _ _ _); show AW _ _ _ _ _))
  clear hF
  try (show AW _ _ _ _ _)
  refine AW.loop (fun g : Nat × Nat => g.1 ≤ pos ∧ pos ≤ g.2 ∧ g.2 ≤ ks.length) (fun g => mkS [(0, .sl .fro (strs ks)), (1, .str p), (6, .int .i64 ks.length), (7, .int .i64 g.1), (8, .int .i64 g.2)] [] 0) (fun g => g.2 - g.1) (0, ks.length) ⟨by omega, hpos, Nat.le_refl _⟩ ?_ ?_
  · refine Fit.mk _ _ _ (by simp [conv2, newEmp, convs_refl, convs, conv]) (by simp [heapFit, newEmp, conv2s, conv2, convs_refl, convs, conv]) (by intro q hq; first | (simp at hq; done) | (simp at hq; omega) | (simp at hq; simp; omega))
  rintro ⟨i, j⟩ ⟨h1, h2, h3⟩
  simp only at h1 h2 h3 ⊢
  by_cases hlt : i < j
  · obtain ⟨m, hm⟩ : ∃ m, m = (i + j) / 2 := ⟨_, rfl⟩
    have hm1 : i ≤ m ∧ m < j := by omega
    obtain ⟨k, hk⟩ : ∃ k, ks[m]? = some k := ⟨_, List.getElem?_eq_getElem (by omega)⟩
    have hek : elemAt (ks.map AV.str) m = .str k := elem_map (f := AV.str) hk
    have hw1 : IntKind.i64.wrap ((i : Int) + j) = (i : Int) + j := i64_in _ ⟨by omega, by omega⟩
    have hw2 : IntKind.u64.wrap ((i : Int) + j) = (i : Int) + j := u64_in _ ⟨by omega, by omega⟩
    have hw3 : Int.fdiv ((i : Int) + j) (2 ^ min 1 IntKind.u64.bits) = (m : Int) := by
      rw [show (2 : Int) ^ min 1 IntKind.u64.bits = 2 by decide, Int.fdiv_eq_ediv_of_nonneg _ (by omega), hm]
      omega
    have hw4 : IntKind.i64.wrap (m : Int) = m := i64_in _ ⟨by omega, by omega⟩
    have hw5 : IntKind.u64.wrap (m : Int) = m := u64_in _ ⟨by omega, by omega⟩
    have hw6 : IntKind.i64.wrap ((m : Int) + 1) = (m : Int) + 1 := i64_in _ ⟨by omega, by omega⟩
    have hlt' : (i : Int) < j := by omega
    have hmn : (m : Int) < ks.length := by omega
    have hmn' : m < ks.length := by omega
    have hc := h133 k
    rw [hsp m k hk] at hc
    have hz : (0 : Int) ≤ m := by omega
    have hF := And.intro (hlt') (And.intro (hw1) (And.intro (hw2) (And.intro (hw3) (And.intro (hw4) (And.intro (hw5) (And.intro (hmn) (And.intro (hmn') (And.intro (hek) (hz)))))))))
    repeat (first | ((with_reducible show AW _ _ _ _ _); first | refine AW.seq ?_ | refine AW.block ?_ | refine AW.reg ?_ | refine AW.draw ?_ | refine wct ?_ | refine wcf ?_ | (refine AW.skip ?_; show AW _ _ _ _ _)) | refine wD1 ?_ | refine wD2 ?_ | refine wE1 ?_ | refine wE2 ?_ | (refine wE3 ?_; intro _) | (refine wE4 ?_; intro _) | refine wN ?_ | ((with_reducible show evIs _ (_ :: _) _ _); first | refine wQ ?_ | refine wF ?_ | refine wG ?_ | refine wT ?_ | refine wM ?_ | refine wS ?_ | refine wP ?_ | refine wJ ?_ | refine wX ?_ | refine wY ?_ | refine wZ ?_ | refine wU ?_ | refine wCp ?_ | refine wCp0 ?_ | refine wApz ?_ | (refine wCap ?_; intro qc hqc)) | refine evDone ?_ | ((fail_if_success with_reducible show AW _ _ _ _ _); show AW _ _ _ _ _))
    clear hF
    try (show AW _ _ _ _ _)
    have hF := True.intro
    refine wC (hA := hc) ?_
    clear hF
    by_cases hp : m < pos
    · have hF := And.intro (hp) (hw6)
      repeat (first | ((with_reducible show AW _ _ _ _ _); first | refine AW.seq ?_ | refine AW.block ?_ | refine AW.reg ?_ | refine AW.draw ?_ | refine wct ?_ | refine wcf ?_ | (refine AW.skip ?_; show AW _ _ _ _ _)) | refine wD1 ?_ | refine wD2 ?_ | refine wE1 ?_ | refine wE2 ?_ | (refine wE3 ?_; intro _) | (refine wE4 ?_; intro _) | refine wN ?_ | ((with_reducible show evIs _ (_ :: _) _ _); first | refine wQ ?_ | refine wF ?_ | refine wG ?_ | refine wT ?_ | refine wM ?_ | refine wS ?_ | refine wP ?_ | refine wJ ?_ | refine wX ?_ | refine wY ?_ | refine wZ ?_ | refine wU ?_ | refine wCp ?_ | refine wCp0 ?_ | refine wApz ?_ | (refine wCap ?_; intro qc hqc)) | refine evDone ?_ | ((fail_if_success with_reducible show AW _ _ _ _ _); show AW _ _ _ _ _))
      clear hF
      try (show AW _ _ _ _ _)
      refine ⟨(m + 1, j), ⟨by simp only; omega, h2, h3⟩, by simp only; omega, ?_⟩
      refine Fit.mk _ _ _ (by simp [hw6, conv2, newEmp, convs_refl, convs, conv]) (by simp [hw6, heapFit, newEmp, conv2s, conv2, convs_refl, convs, conv]) (by intro q hq; first | (simp at hq; done) | (simp at hq; omega) | (simp at hq; simp; omega))
    · have hF := hp
      repeat (first | ((with_reducible show AW _ _ _ _ _); first | refine AW.seq ?_ | refine AW.block ?_ | refine AW.reg ?_ | refine AW.draw ?_ | refine wct ?_ | refine wcf ?_ | (refine AW.skip ?_; show AW _ _ _ _ _)) | refine wD1 ?_ | refine wD2 ?_ | refine wE1 ?_ | refine wE2 ?_ | (refine wE3 ?_; intro _) | (refine wE4 ?_; intro _) | refine wN ?_ | ((with_reducible show evIs _ (_ :: _) _ _); first | refine wQ ?_ | refine wF ?_ | refine wG ?_ | refine wT ?_ | refine wM ?_ | refine wS ?_ | refine wP ?_ | refine wJ ?_ | refine wX ?_ | refine wY ?_ | refine wZ ?_ | refine wU ?_ | refine wCp ?_ | refine wCp0 ?_ | refine wApz ?_ | (refine wCap ?_; intro qc hqc)) | refine evDone ?_ | ((fail_if_success with_reducible show AW _ _ _ _ _); show AW _ _ _ _ _))
      clear hF
      try (show AW _ _ _ _ _)
      refine ⟨(i, m), ⟨h1, by simp only; omega, by simp only; omega⟩, by simp only; omega, ?_⟩
      refine Fit.mk _ _ _ (by simp [conv2, newEmp, convs_refl, convs, conv]) (by simp [heapFit, newEmp, conv2s, conv2, convs_refl, convs, conv]) (by intro q hq; first | (simp at hq; done) | (simp at hq; omega) | (simp at hq; simp; omega))
  · have hi : i = pos := by omega
    have hlt' : ¬ (i : Int) < j := by omega
    subst hi
    have hF := hlt'
    repeat (first | ((with_reducible show AW _ _ _ _ _); first | refine AW.seq ?_ | refine AW.block ?_ | refine AW.reg ?_ | refine AW.draw ?_ | refine wct ?_ | refine wcf ?_ | (refine AW.skip ?_; show AW _ _ _ _ _)) | refine wD1 ?_ | refine wD2 ?_ | refine wE1 ?_ | refine wE2 ?_ | (refine wE3 ?_; intro _) | (refine wE4 ?_; intro _) | refine wN ?_ | ((with_reducible show evIs _ (_ :: _) _ _); first | refine wQ ?_ | refine wF ?_ | refine wG ?_ | refine wT ?_ | refine wM ?_ | refine wS ?_ | refine wP ?_ | refine wJ ?_ | refine wX ?_ | refine wY ?_ | refine wZ ?_ | refine wU ?_ | refine wCp ?_ | refine wCp0 ?_ | refine wApz ?_ | (refine wCap ?_; intro qc hqc)) | refine evDone ?_ | ((fail_if_success with_reducible show AW _ _ _ _ _); show AW _ _ _ _ _))
    clear hF
    try (show AW _ _ _ _ _)
    refine AW.exit ?_
    show AW _ _ _ _ _
    by_cases hn : i < ks.length
    · obtain ⟨k, hk⟩ : ∃ k, ks[i]? = some k := ⟨_, List.getElem?_eq_getElem hn⟩
      have hek : elemAt (ks.map AV.str) i = .str k := elem_map (f := AV.str) hk
      have hn' : (i : Int) < ks.length := by omega
      have hz : (0 : Int) ≤ i := by omega
      by_cases hkp : k = p
      · subst hkp
        have hF := And.intro (hn) (And.intro (hn') (And.intro (hek) (hz)))
        repeat (first | ((with_reducible show AW _ _ _ _ _); first | refine AW.seq ?_ | refine AW.block ?_ | refine AW.reg ?_ | refine AW.draw ?_ | refine wct ?_ | refine wcf ?_ | (refine AW.skip ?_; show AW _ _ _ _ _)) | refine wD1 ?_ | refine wD2 ?_ | refine wE1 ?_ | refine wE2 ?_ | (refine wE3 ?_; intro _) | (refine wE4 ?_; intro _) | refine wN ?_ | ((with_reducible show evIs _ (_ :: _) _ _); first | refine wQ ?_ | refine wF ?_ | refine wG ?_ | refine wT ?_ | refine wM ?_ | refine wS ?_ | refine wP ?_ | refine wJ ?_ | refine wX ?_ | refine wY ?_ | refine wZ ?_ | refine wU ?_ | refine wCp ?_ | refine wCp0 ?_ | refine wApz ?_ | (refine wCap ?_; intro qc hqc)) | refine evDone ?_ | ((fail_if_success with_reducible show AW _ _ _ _ _); show AW _ _ _ _ _))
        clear hF
        try (show AW _ _ _ _ _)
        refine AW.ret (retI rfl ?_)
        simp [hk, a108_res, resOk, resP, resV, ARes.op, R2s, R2, R1s, R1, closeOk, closeV]
      · have h134k := h134 k
        have hF := And.intro (hn) (And.intro (hn') (And.intro (hek) (And.intro (hz) (hkp))))
        repeat (first | ((with_reducible show AW _ _ _ _ _); first | refine AW.seq ?_ | refine AW.block ?_ | refine AW.reg ?_ | refine AW.draw ?_ | refine wct ?_ | refine wcf ?_ | (refine AW.skip ?_; show AW _ _ _ _ _)) | refine wD1 ?_ | refine wD2 ?_ | refine wE1 ?_ | refine wE2 ?_ | (refine wE3 ?_; intro _) | (refine wE4 ?_; intro _) | refine wN ?_ | ((with_reducible show evIs _ (_ :: _) _ _); first | refine wQ ?_ | refine wF ?_ | refine wG ?_ | refine wT ?_ | refine wM ?_ | refine wS ?_ | refine wP ?_ | refine wJ ?_ | refine wX ?_ | refine wY ?_ | refine wZ ?_ | refine wU ?_ | refine wCp ?_ | refine wCp0 ?_ | refine wApz ?_ | (refine wCap ?_; intro qc hqc)) | refine evDone ?_ | ((fail_if_success with_reducible show AW _ _ _ _ _); show AW _ _ _ _ _))
        clear hF
        try (show AW _ _ _ _ _)
        have hF := True.intro
        refine wC (hA := h134k) ?_
        clear hF
        have hF := True.intro
        repeat (first | ((with_reducible show AW _ _ _ _ _); first | refine AW.seq ?_ | refine AW.block ?_ | refine AW.reg ?_ | refine AW.draw ?_ | refine wct ?_ | refine wcf ?_ | (refine AW.skip ?_; show AW _ _ _ _ _)) | refine wD1 ?_ | refine wD2 ?_ | refine wE1 ?_ | refine wE2 ?_ | (refine wE3 ?_; intro _) | (refine wE4 ?_; intro _) | refine wN ?_ | ((with_reducible show evIs _ (_ :: _) _ _); first | refine wQ ?_ | refine wF ?_ | refine wG ?_ | refine wT ?_ | refine wM ?_ | refine wS ?_ | refine wP ?_ | refine wJ ?_ | refine wX ?_ | refine wY ?_ | refine wZ ?_ | refine wU ?_ | refine wCp ?_ | refine wCp0 ?_ | refine wApz ?_ | (refine wCap ?_; intro qc hqc)) | refine evDone ?_ | ((fail_if_success with_reducible show AW _ _ _ _ _); show AW _ _ _ _ _))
        clear hF
        try (show AW _ _ _ _ _)
        refine AW.ret (retI rfl ?_)
        simp [hk, hkp, a108_res, resOk, resP, resV, ARes.op, R2s, R2, R1s, R1, closeOk, closeV]
    · have hn' : ¬ (i : Int) < ks.length := by omega
      have hnone : ks[i]? = none := List.getElem?_eq_none (by omega)
      have hF := And.intro (hn') (hn)
      repeat (first | ((with_reducible show AW _ _ _ _ _); first | refine AW.seq ?_ | refine AW.block ?_ | refine AW.reg ?_ | refine AW.draw ?_ | refine wct ?_ | refine wcf ?_ | (refine AW.skip ?_; show AW _ _ _ _ _)) | refine wD1 ?_ | refine wD2 ?_ | refine wE1 ?_ | refine wE2 ?_ | (refine wE3 ?_; intro _) | (refine wE4 ?_; intro _) | refine wN ?_ | ((with_reducible show evIs _ (_ :: _) _ _); first | refine wQ ?_ | refine wF ?_ | refine wG ?_ | refine wT ?_ | refine wM ?_ | refine wS ?_ | refine wP ?_ | refine wJ ?_ | refine wX ?_ | refine wY ?_ | refine wZ ?_ | refine wU ?_ | refine wCp ?_ | refine wCp0 ?_ | refine wApz ?_ | (refine wCap ?_; intro qc hqc)) | refine evDone ?_ | ((fail_if_success with_reducible show AW _ _ _ _ _); show AW _ _ _ _ _))
      clear hF
      try (show AW _ _ _ _ _)
      refine AW.ret (retI rfl ?_)
      simp [hnone, a108_res, resOk, resP, resV, ARes.op, R2s, R2, R1s, R1, closeOk, closeV]
end Go.Proofs.Ytdnpnokplfemfaa

set_option linter.unusedSimpArgs false
set_option linter.unusedVariables false
set_option maxHeartbeats 4000000
namespace Go.Proofs.Ytdnpnokplfemfaa
open Go Go.Amb Go.IntWalk

/-- A copy, its two rows its own. -/
theorem g20 (k n : Int) (t : ByteArray) (is : List Val) (ks : List ByteArray) (hv : (Val.mk k n t is ks).okv) :
    ACall Try.prog 20 [.agg [.int .i64 k, .int .i64 n, .str t, .sl .fro (avs is), .sl .fro (ks.map .str)]] (· = .agg [.int .i64 k, .int .i64 n, .str t, .sl (.own 5) (avs is), .sl (.own 1) (ks.map .str)]) := by
  simp only [Val.okv] at hv
  obtain ⟨hb, hk, hi⟩ := hv
  have h := f64 is hi hb
  have h54 := f65 (ks.map .str) (by simp) (by simpa using hk) (by simp; omega)
  have ht : (ks.map AV.str).take ks.length = ks.map AV.str := List.take_of_length_le (by simp)
  refine b20_of (by simp) ?_
  have hF := True.intro
  repeat (first | ((with_reducible show AW _ _ _ _ _); first | refine AW.seq ?_ | refine AW.block ?_ | refine AW.reg ?_ | refine AW.draw ?_ | refine wct ?_ | refine wcf ?_ | (refine AW.skip ?_; show AW _ _ _ _ _)) | refine wD1 ?_ | refine wD2 ?_ | refine wE1 ?_ | refine wE2 ?_ | (refine wE3 ?_; intro _) | (refine wE4 ?_; intro _) | refine wN ?_ | ((with_reducible show evIs _ (_ :: _) _ _); first | refine wQ ?_ | refine wF ?_ | refine wG ?_ | refine wT ?_ | refine wM ?_ | refine wS ?_ | refine wP ?_ | refine wJ ?_ | refine wX ?_ | refine wY ?_ | refine wZ ?_ | refine wU ?_ | refine wCp ?_ | refine wCp0 ?_ | refine wApz ?_ | (refine wCap ?_; intro qc hqc)) | refine evDone ?_ | ((fail_if_success with_reducible show AW _ _ _ _ _); show AW _ _ _ _ _))
  clear hF
  try (show AW _ _ _ _ _)
  have hF := True.intro
  refine wA (hA := h) ?_
  clear hF
  have hF := True.intro
  repeat (first | ((with_reducible show AW _ _ _ _ _); first | refine AW.seq ?_ | refine AW.block ?_ | refine AW.reg ?_ | refine AW.draw ?_ | refine wct ?_ | refine wcf ?_ | (refine AW.skip ?_; show AW _ _ _ _ _)) | refine wD1 ?_ | refine wD2 ?_ | refine wE1 ?_ | refine wE2 ?_ | (refine wE3 ?_; intro _) | (refine wE4 ?_; intro _) | refine wN ?_ | ((with_reducible show evIs _ (_ :: _) _ _); first | refine wQ ?_ | refine wF ?_ | refine wG ?_ | refine wT ?_ | refine wM ?_ | refine wS ?_ | refine wP ?_ | refine wJ ?_ | refine wX ?_ | refine wY ?_ | refine wZ ?_ | refine wU ?_ | refine wCp ?_ | refine wCp0 ?_ | refine wApz ?_ | (refine wCap ?_; intro qc hqc)) | refine evDone ?_ | ((fail_if_success with_reducible show AW _ _ _ _ _); show AW _ _ _ _ _))
  clear hF
  try (show AW _ _ _ _ _)
  have hF := True.intro
  refine wA (hA := h54) ?_
  clear hF
  have hF := True.intro
  repeat (first | ((with_reducible show AW _ _ _ _ _); first | refine AW.seq ?_ | refine AW.block ?_ | refine AW.reg ?_ | refine AW.draw ?_ | refine wct ?_ | refine wcf ?_ | (refine AW.skip ?_; show AW _ _ _ _ _)) | refine wD1 ?_ | refine wD2 ?_ | refine wE1 ?_ | refine wE2 ?_ | (refine wE3 ?_; intro _) | (refine wE4 ?_; intro _) | refine wN ?_ | ((with_reducible show evIs _ (_ :: _) _ _); first | refine wQ ?_ | refine wF ?_ | refine wG ?_ | refine wT ?_ | refine wM ?_ | refine wS ?_ | refine wP ?_ | refine wJ ?_ | refine wX ?_ | refine wY ?_ | refine wZ ?_ | refine wU ?_ | refine wCp ?_ | refine wCp0 ?_ | refine wApz ?_ | (refine wCap ?_; intro qc hqc)) | refine evDone ?_ | ((fail_if_success with_reducible show AW _ _ _ _ _); show AW _ _ _ _ _))
  clear hF
  try (show AW _ _ _ _ _)
  refine AW.ret (retI rfl ?_)
  simp [ht, b20_res, resOk, resP, resV, ARes.op, R2s, R2, R1s, R1, closeOk, closeV]
abbrev zStr : AV := .str ⟨#[]⟩
theorem f84 (N r i : Nat) (es : List AV) (hr : r < N) (hi : i < es.length) (hl : es.length ≤ 9223372036854775807) (hu : ∀ x ∈ es, (cellsOf x).length = 1) (hs : ∀ c ∈ flat es, c.shr = true) :
    BCall Try.prog 84 [(r, ⟨1, false, es⟩)] N [.hdr r 0 es.length, .int .i64 i, .int .i64 (i + 1)]
      (fun H1 n' v => H1 = [(r, ⟨1, false, es.take i ++ es.drop (i + 1) ++ [zStr]⟩)] ∧ n' = N + 40 ∧ v = .hdr r 0 (es.length - 1)) := by
  have hs2 : ∀ c ∈ flat (es.drop (i + 1)), c.shr = true := fun c hc => hs c (by
    obtain ⟨x, hx, hcx⟩ := List.mem_flatMap.1 hc
    exact List.mem_flatMap.2 ⟨x, List.mem_of_mem_drop hx, hcx⟩)
  have ht : (es.drop (i + 1)).take (es.length - (i + 1)) = es.drop (i + 1) := List.take_of_length_le (by simp)
  have h1 : i + (es.length - (i + 1)) ≤ es.length := by omega
  have h2 : i ≤ es.length := by omega
  have h3 : i + 1 ≤ es.length := by omega
  have h4 : (i : Int) ≤ (i : Int) + 1 := by omega
  have h5 : (i : Int) + 1 ≤ es.length := by omega
  have h6 : (0 : Int) ≤ (i : Int) + 1 := by omega
  have h7 : ((i : Int) + 1).toNat = i + 1 := by omega
  have h8 : ¬ (i : Int) = (i : Int) + 1 := by omega
  have h9 : es ≠ [] := by intro h; subst h; simp at hi
  have h10 : 0 < es.length := by omega
  have hs3 := hs2
  simp at hs3
  refine bcall_coded a84_ok (by simp) ?_
  repeat refine AW.seq ?_
  refine AW.reg ?_
  have hF := True.intro
  repeat ((with_reducible show evIs _ (_ :: _) _ _); first | refine wQ ?_ | refine wF ?_ | refine wG ?_ | refine wT ?_ | refine wM ?_ | refine wS ?_ | refine wP ?_)
  clear hF
  repeat refine evDone ?_
  try (show AW _ _ _ _ _)
  repeat refine AW.seq ?_
  refine AW.reg ?_
  have hF := And.intro (h1) (And.intro (h2) (And.intro (h3) (And.intro (h4) (And.intro (h5) (And.intro (h6) (h7))))))
  repeat (first | refine wD1 ?_ | refine wD2 ?_ | refine wE1 ?_ | refine wE2 ?_ | (refine wE3 ?_; intro _) | (refine wE4 ?_; intro _) | refine wN ?_ | ((with_reducible show evIs _ (_ :: _) _ _); first | refine wQ ?_ | refine wF ?_ | refine wG ?_ | refine wT ?_ | refine wM ?_ | refine wS ?_ | refine wP ?_ | refine wJ ?_ | refine wX ?_ | refine wY ?_ | refine wZ ?_ | refine wU ?_ | refine wCp ?_ | refine wCp0 ?_ | refine wApz ?_ | (refine wCap ?_; intro qc hqc)))
  clear hF
  repeat refine evDone ?_
  try (show AW _ _ _ _ _)
  repeat refine AW.seq ?_
  refine AW.reg ?_
  have hF := h8
  repeat ((with_reducible show evIs _ (_ :: _) _ _); first | refine wQ ?_ | refine wF ?_ | refine wG ?_ | refine wT ?_ | refine wM ?_ | refine wS ?_ | refine wP ?_)
  clear hF
  repeat refine evDone ?_
  try (show AW _ _ _ _ _)
  repeat refine AW.seq ?_
  refine AW.condF (by simp [h8]) (by simp [h8]) ?_
  refine AW.skip ?_
  show AW _ _ _ _ _
  repeat refine AW.seq ?_
  refine AW.reg ?_
  have hF := True.intro
  repeat ((with_reducible show evIs _ (_ :: _) _ _); first | refine wQ ?_ | refine wF ?_ | refine wG ?_ | refine wT ?_ | refine wM ?_ | refine wS ?_ | refine wP ?_)
  clear hF
  repeat refine evDone ?_
  try (show AW _ _ _ _ _)
  repeat refine AW.seq ?_
  refine AW.draw ?_
  have hF := And.intro (h1) (And.intro (h2) (And.intro (h3) (And.intro (h4) (And.intro (h5) (And.intro (h6) (And.intro (h7) (And.intro (ht) (And.intro (h9) (And.intro (h10) (eq_true hs3))))))))))
  repeat (first | refine wD1 ?_ | refine wD2 ?_ | refine wE1 ?_ | refine wE2 ?_ | (refine wE3 ?_; intro _) | (refine wE4 ?_; intro _) | refine wN ?_ | ((with_reducible show evIs _ (_ :: _) _ _); first | refine wQ ?_ | refine wF ?_ | refine wG ?_ | refine wT ?_ | refine wM ?_ | refine wS ?_ | refine wP ?_ | refine wJ ?_ | refine wX ?_ | refine wY ?_ | refine wZ ?_ | refine wU ?_ | refine wCp ?_ | refine wCp0 ?_ | refine wApz ?_ | (refine wCap ?_; intro qc hqc)))
  clear hF
  repeat refine evDone ?_
  try (show AW _ _ _ _ _)
  obtain ⟨m, hm⟩ : ∃ m, es.length = m + 1 := ⟨es.length - 1, by omega⟩
  have hm1 : i + (es.length - (i + 1)) = m := by omega
  have hm2 : (es.length : Int) = (m : Int) + 1 := by omega
  have hm3 : es.length - 1 = m := by omega
  refine AW.fit (st' := mkS [(0, .hdr r 0 m), (7, .int .i64 ((m : Int) + 1))] [(r, ⟨1, false, es.take i ++ (es.drop (i + 1) ++ es.drop m)⟩)] (N + 40)) ?_ ?_
  · have hrn : ∀ k, r < N + k := fun k => by omega
    refine Fit.mk _ _ _ (by simp [hm1, hm2, hrn, conv2, newEmp, convs_refl, convs, conv]) (by simp [hm1, hm2, hrn, heapFit, newEmp, conv2s, conv2, convs_refl, convs, conv]) (by intro q hq; first | (simp at hq; done) | (simp at hq; omega) | (simp at hq; simp; omega))
  have hAl : (es.take i ++ (es.drop (i + 1) ++ es.drop m)).length = m + 1 := by simp; omega
  have hAt : (es.take i ++ (es.drop (i + 1) ++ es.drop m)).take m = es.take i ++ es.drop (i + 1) := by
    rw [← List.append_assoc, List.take_append_of_le_length (by simp; omega), List.take_of_length_le (by simp; omega)]
  generalize es.take i ++ (es.drop (i + 1) ++ es.drop m) = A at hAl hAt
  have hAd : A.drop (m + 1) = [] := List.drop_eq_nil_of_le (by omega)
  have hA1 : A ≠ [] := by intro h; subst h; simp at hAl
  have hA2 : (m : Int) + 1 ≤ A.length := by omega
  have hA3 : ((m : Int) + 1).toNat = m + 1 := by omega
  have hA4 : (0 : Int) ≤ (m : Int) + 1 := by omega
  have hA5 : (m : Int) ≤ (m : Int) + 1 := by omega
  repeat refine AW.seq ?_
  refine AW.reg ?_
  have hF := And.intro (hAl) (And.intro (hAt) (And.intro (hAd) (And.intro (hA1) (And.intro (hA2) (And.intro (hA3) (And.intro (hA4) (hA5)))))))
  repeat (first | refine wD1 ?_ | refine wD2 ?_ | refine wE1 ?_ | refine wE2 ?_ | (refine wE3 ?_; intro _) | (refine wE4 ?_; intro _) | refine wN ?_ | ((with_reducible show evIs _ (_ :: _) _ _); first | refine wQ ?_ | refine wF ?_ | refine wG ?_ | refine wT ?_ | refine wM ?_ | refine wS ?_ | refine wP ?_ | refine wJ ?_ | refine wX ?_ | refine wY ?_ | refine wZ ?_ | refine wU ?_ | refine wCp ?_ | refine wCp0 ?_ | refine wApz ?_ | (refine wCap ?_; intro qc hqc)))
  clear hF
  repeat refine evDone ?_
  try (show AW _ _ _ _ _)
  repeat refine AW.seq ?_
  refine AW.reg ?_
  have hF := True.intro
  repeat ((with_reducible show evIs _ (_ :: _) _ _); first | refine wQ ?_ | refine wF ?_ | refine wG ?_ | refine wT ?_ | refine wM ?_ | refine wS ?_ | refine wP ?_)
  clear hF
  repeat refine evDone ?_
  try (show AW _ _ _ _ _)
  have hrn : ∀ k, r < N + k := fun k => by omega
  refine AW.ret ⟨by simp [resP, a84_res, ARes.op], [(r, ⟨1, false, es.take i ++ es.drop (i + 1) ++ [zStr]⟩)], N + 40, [.hdr r 0 (es.length - 1)], ⟨rfl, rfl, rfl⟩, by omega, by simp, rfl, by simp, ?_⟩
  simp only [resV, a84_res, List.map_cons, List.map_nil, ARes.op]
  refine Fit.mk _ _ _ (by simp [hAl, hAt, hAd, hrn, hm3, conv2, newEmp, convs_refl, convs, conv]) (by simp [hAl, hAt, hAd, hrn, hm3, heapFit, newEmp, conv2s, conv2, convs_refl, convs, conv]) (by intro q hq; first | (simp at hq; done) | (simp at hq; omega) | (simp at hq; simp; omega))
theorem f85 (N r i : Nat) (es : List AV) (hr : r < N) (hi : i < es.length) (hl : es.length ≤ 9223372036854775807) (hu : ∀ x ∈ es, (cellsOf x).length = 5) (hs : ∀ c ∈ flat es, c.shr = true) :
    BCall Try.prog 85 [(r, ⟨5, false, es⟩)] N [.hdr r 0 es.length, .int .i64 i, .int .i64 (i + 1)]
      (fun H1 n' v => H1 = [(r, ⟨5, false, es.take i ++ es.drop (i + 1) ++ [zV]⟩)] ∧ n' = N + 40 ∧ v = .hdr r 0 (es.length - 1)) := by
  have hs2 : ∀ c ∈ flat (es.drop (i + 1)), c.shr = true := fun c hc => hs c (by
    obtain ⟨x, hx, hcx⟩ := List.mem_flatMap.1 hc
    exact List.mem_flatMap.2 ⟨x, List.mem_of_mem_drop hx, hcx⟩)
  have ht : (es.drop (i + 1)).take (es.length - (i + 1)) = es.drop (i + 1) := List.take_of_length_le (by simp)
  have h1 : i + (es.length - (i + 1)) ≤ es.length := by omega
  have h2 : i ≤ es.length := by omega
  have h3 : i + 1 ≤ es.length := by omega
  have h4 : (i : Int) ≤ (i : Int) + 1 := by omega
  have h5 : (i : Int) + 1 ≤ es.length := by omega
  have h6 : (0 : Int) ≤ (i : Int) + 1 := by omega
  have h7 : ((i : Int) + 1).toNat = i + 1 := by omega
  have h8 : ¬ (i : Int) = (i : Int) + 1 := by omega
  have h9 : es ≠ [] := by intro h; subst h; simp at hi
  have h10 : 0 < es.length := by omega
  have hs3 := hs2
  simp at hs3
  refine bcall_coded a85_ok (by simp) ?_
  repeat refine AW.seq ?_
  refine AW.reg ?_
  have hF := True.intro
  repeat ((with_reducible show evIs _ (_ :: _) _ _); first | refine wQ ?_ | refine wF ?_ | refine wG ?_ | refine wT ?_ | refine wM ?_ | refine wS ?_ | refine wP ?_)
  clear hF
  repeat refine evDone ?_
  try (show AW _ _ _ _ _)
  repeat refine AW.seq ?_
  refine AW.reg ?_
  have hF := And.intro (h1) (And.intro (h2) (And.intro (h3) (And.intro (h4) (And.intro (h5) (And.intro (h6) (h7))))))
  repeat (first | refine wD1 ?_ | refine wD2 ?_ | refine wE1 ?_ | refine wE2 ?_ | (refine wE3 ?_; intro _) | (refine wE4 ?_; intro _) | refine wN ?_ | ((with_reducible show evIs _ (_ :: _) _ _); first | refine wQ ?_ | refine wF ?_ | refine wG ?_ | refine wT ?_ | refine wM ?_ | refine wS ?_ | refine wP ?_ | refine wJ ?_ | refine wX ?_ | refine wY ?_ | refine wZ ?_ | refine wU ?_ | refine wCp ?_ | refine wCp0 ?_ | refine wApz ?_ | (refine wCap ?_; intro qc hqc)))
  clear hF
  repeat refine evDone ?_
  try (show AW _ _ _ _ _)
  repeat refine AW.seq ?_
  refine AW.reg ?_
  have hF := h8
  repeat ((with_reducible show evIs _ (_ :: _) _ _); first | refine wQ ?_ | refine wF ?_ | refine wG ?_ | refine wT ?_ | refine wM ?_ | refine wS ?_ | refine wP ?_)
  clear hF
  repeat refine evDone ?_
  try (show AW _ _ _ _ _)
  repeat refine AW.seq ?_
  refine AW.condF (by simp [h8]) (by simp [h8]) ?_
  refine AW.skip ?_
  show AW _ _ _ _ _
  repeat refine AW.seq ?_
  refine AW.reg ?_
  have hF := True.intro
  repeat ((with_reducible show evIs _ (_ :: _) _ _); first | refine wQ ?_ | refine wF ?_ | refine wG ?_ | refine wT ?_ | refine wM ?_ | refine wS ?_ | refine wP ?_)
  clear hF
  repeat refine evDone ?_
  try (show AW _ _ _ _ _)
  repeat refine AW.seq ?_
  refine AW.draw ?_
  have hF := And.intro (h1) (And.intro (h2) (And.intro (h3) (And.intro (h4) (And.intro (h5) (And.intro (h6) (And.intro (h7) (And.intro (ht) (And.intro (h9) (And.intro (h10) (eq_true hs3))))))))))
  repeat (first | refine wD1 ?_ | refine wD2 ?_ | refine wE1 ?_ | refine wE2 ?_ | (refine wE3 ?_; intro _) | (refine wE4 ?_; intro _) | refine wN ?_ | ((with_reducible show evIs _ (_ :: _) _ _); first | refine wQ ?_ | refine wF ?_ | refine wG ?_ | refine wT ?_ | refine wM ?_ | refine wS ?_ | refine wP ?_ | refine wJ ?_ | refine wX ?_ | refine wY ?_ | refine wZ ?_ | refine wU ?_ | refine wCp ?_ | refine wCp0 ?_ | refine wApz ?_ | (refine wCap ?_; intro qc hqc)))
  clear hF
  repeat refine evDone ?_
  try (show AW _ _ _ _ _)
  obtain ⟨m, hm⟩ : ∃ m, es.length = m + 1 := ⟨es.length - 1, by omega⟩
  have hm1 : i + (es.length - (i + 1)) = m := by omega
  have hm2 : (es.length : Int) = (m : Int) + 1 := by omega
  have hm3 : es.length - 1 = m := by omega
  refine AW.fit (st' := mkS [(0, .hdr r 0 m), (7, .int .i64 ((m : Int) + 1))] [(r, ⟨5, false, es.take i ++ (es.drop (i + 1) ++ es.drop m)⟩)] (N + 40)) ?_ ?_
  · have hrn : ∀ k, r < N + k := fun k => by omega
    refine Fit.mk _ _ _ (by simp [hm1, hm2, hrn, conv2, newEmp, convs_refl, convs, conv]) (by simp [hm1, hm2, hrn, heapFit, newEmp, conv2s, conv2, convs_refl, convs, conv]) (by intro q hq; first | (simp at hq; done) | (simp at hq; omega) | (simp at hq; simp; omega))
  have hAl : (es.take i ++ (es.drop (i + 1) ++ es.drop m)).length = m + 1 := by simp; omega
  have hAt : (es.take i ++ (es.drop (i + 1) ++ es.drop m)).take m = es.take i ++ es.drop (i + 1) := by
    rw [← List.append_assoc, List.take_append_of_le_length (by simp; omega), List.take_of_length_le (by simp; omega)]
  generalize es.take i ++ (es.drop (i + 1) ++ es.drop m) = A at hAl hAt
  have hAd : A.drop (m + 1) = [] := List.drop_eq_nil_of_le (by omega)
  have hA1 : A ≠ [] := by intro h; subst h; simp at hAl
  have hA2 : (m : Int) + 1 ≤ A.length := by omega
  have hA3 : ((m : Int) + 1).toNat = m + 1 := by omega
  have hA4 : (0 : Int) ≤ (m : Int) + 1 := by omega
  have hA5 : (m : Int) ≤ (m : Int) + 1 := by omega
  repeat refine AW.seq ?_
  refine AW.reg ?_
  have hF := And.intro (hAl) (And.intro (hAt) (And.intro (hAd) (And.intro (hA1) (And.intro (hA2) (And.intro (hA3) (And.intro (hA4) (hA5)))))))
  repeat (first | refine wD1 ?_ | refine wD2 ?_ | refine wE1 ?_ | refine wE2 ?_ | (refine wE3 ?_; intro _) | (refine wE4 ?_; intro _) | refine wN ?_ | ((with_reducible show evIs _ (_ :: _) _ _); first | refine wQ ?_ | refine wF ?_ | refine wG ?_ | refine wT ?_ | refine wM ?_ | refine wS ?_ | refine wP ?_ | refine wJ ?_ | refine wX ?_ | refine wY ?_ | refine wZ ?_ | refine wU ?_ | refine wCp ?_ | refine wCp0 ?_ | refine wApz ?_ | (refine wCap ?_; intro qc hqc)))
  clear hF
  repeat refine evDone ?_
  try (show AW _ _ _ _ _)
  repeat refine AW.seq ?_
  refine AW.reg ?_
  have hF := True.intro
  repeat ((with_reducible show evIs _ (_ :: _) _ _); first | refine wQ ?_ | refine wF ?_ | refine wG ?_ | refine wT ?_ | refine wM ?_ | refine wS ?_ | refine wP ?_)
  clear hF
  repeat refine evDone ?_
  try (show AW _ _ _ _ _)
  have hrn : ∀ k, r < N + k := fun k => by omega
  refine AW.ret ⟨by simp [resP, a85_res, ARes.op], [(r, ⟨5, false, es.take i ++ es.drop (i + 1) ++ [zV]⟩)], N + 40, [.hdr r 0 (es.length - 1)], ⟨rfl, rfl, rfl⟩, by omega, by simp, rfl, by simp, ?_⟩
  simp only [resV, a85_res, List.map_cons, List.map_nil, ARes.op]
  refine Fit.mk _ _ _ (by simp [hAl, hAt, hAd, hrn, hm3, conv2, newEmp, convs_refl, convs, conv]) (by simp [hAl, hAt, hAd, hrn, hm3, heapFit, newEmp, conv2s, conv2, convs_refl, convs, conv]) (by intro q hq; first | (simp at hq; done) | (simp at hq; omega) | (simp at hq; simp; omega))
end Go.Proofs.Ytdnpnokplfemfaa
