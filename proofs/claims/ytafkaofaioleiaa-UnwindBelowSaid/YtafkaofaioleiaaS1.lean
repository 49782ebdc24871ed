/- Contracts of chapter 13's functions, first part: values are copied, compared, measured. -/
import Derived.Test.YtafkaofaioleiaaB
import Derived.Test.YtafkaofaioleiaaA2
import Derived.Test.YtafkaofaioleiaaA3
import Derived.IntWalk

set_option linter.unusedSimpArgs false
set_option linter.unusedVariables false
set_option maxHeartbeats 4000000
namespace Go.Proofs.Ytafkaofaioleiaa
open Go Go.Amb Go.IntWalk

theorem f54 (xs : List AV) (hu : ∀ x ∈ xs, (cellsOf x).length = 1) (hb : xs.length * 16 ≤ 140737488355328) (hl : xs.length ≤ 9223372036854775807) : ACall Try.prog 54 [.sl .fro xs] (· = .sl (.own 1) xs) := by
  refine a54_of (by simp) ?_
  repeat refine AW.seq ?_
  refine AW.reg ?_
  have hF := True.intro
  repeat (first | refine wD1 ?_ | refine wD2 ?_ | refine wE1 ?_ | refine wE2 ?_ | (refine wE3 ?_; intro _) | (refine wE4 ?_; intro _) | refine wN ?_ | ((with_reducible show evIs _ (_ :: _) _ _); first | refine wQ ?_ | refine wF ?_ | refine wG ?_ | refine wT ?_ | refine wM ?_ | refine wS ?_ | refine wP ?_ | refine wJ ?_ | refine wX ?_ | refine wY ?_))
  clear hF
  repeat refine evDone ?_
  try (show AW _ _ _ _ _)
  repeat refine AW.seq ?_
  refine AW.reg ?_
  have hF := True.intro
  repeat (first | refine wD1 ?_ | refine wD2 ?_ | refine wE1 ?_ | refine wE2 ?_ | (refine wE3 ?_; intro _) | (refine wE4 ?_; intro _) | refine wN ?_ | ((with_reducible show evIs _ (_ :: _) _ _); first | refine wQ ?_ | refine wF ?_ | refine wG ?_ | refine wT ?_ | refine wM ?_ | refine wS ?_ | refine wP ?_ | refine wJ ?_ | refine wX ?_ | refine wY ?_))
  clear hF
  repeat refine evDone ?_
  try (show AW _ _ _ _ _)
  refine evZ rfl rfl rfl (by conv => lhs; simp) (by simp) rfl ?_
  intro b hbz
  show AW _ _ _ _ _
  cases b
  · repeat refine AW.seq ?_
    refine AW.condF (by simp []) (by simp []) ?_
    refine AW.skip ?_
    show AW _ _ _ _ _
    repeat refine AW.seq ?_
    refine AW.reg ?_
    have hF := And.intro (hb) (And.intro (hl) (eq_true hu))
    repeat (first | refine wD1 ?_ | refine wD2 ?_ | refine wE1 ?_ | refine wE2 ?_ | (refine wE3 ?_; intro _) | (refine wE4 ?_; intro _) | refine wN ?_ | ((with_reducible show evIs _ (_ :: _) _ _); first | refine wQ ?_ | refine wF ?_ | refine wG ?_ | refine wT ?_ | refine wM ?_ | refine wS ?_ | refine wP ?_ | refine wJ ?_ | refine wX ?_ | refine wY ?_))
    clear hF
    repeat refine evDone ?_
    try (show AW _ _ _ _ _)
    refine AW.ret (retI rfl ?_)
    simp [a54_res, resOk, resP, resV, ARes.op, R2s, R2, R1s, R1, closeOk, closeV]
  · have hx : xs = [] := List.length_eq_zero_iff.1 (by simpa [lenOf] using hbz)
    subst hx
    repeat refine AW.seq ?_
    refine AW.condT (by simp []) (by simp []) ?_
    repeat refine AW.seq ?_
    refine AW.reg ?_
    have hF := True.intro
    repeat (first | refine wD1 ?_ | refine wD2 ?_ | refine wE1 ?_ | refine wE2 ?_ | (refine wE3 ?_; intro _) | (refine wE4 ?_; intro _) | refine wN ?_ | ((with_reducible show evIs _ (_ :: _) _ _); first | refine wQ ?_ | refine wF ?_ | refine wG ?_ | refine wT ?_ | refine wM ?_ | refine wS ?_ | refine wP ?_ | refine wJ ?_ | refine wX ?_ | refine wY ?_))
    clear hF
    repeat refine evDone ?_
    try (show AW _ _ _ _ _)
    refine AW.ret (retI rfl ?_)
    simp [a54_res, resOk, resP, resV, ARes.op, R2s, R2, R1s, R1, closeOk, closeV]
theorem strs_cl (ks : List ByteArray) : (ks.map AV.str).map clC = ks.map AV.str := by simp
theorem f33_of (k n : Int) (t : ByteArray) (is : List Val) (ks : List ByteArray) (hk : ks.length * 16 ≤ 140737488355328) (h : ACall Try.prog 53 [.sl .fro (avs is)] (· = .sl (.own 5) (avs is))) :
    ACall Try.prog 33 [.agg [.int .i64 k, .int .i64 n, .str t, .sl .fro (avs is), .sl .fro (ks.map .str)]] (· = .agg [.int .i64 k, .int .i64 n, .str t, .sl .fro (avs is), .sl .fro (ks.map .str)]) := by
  have hc := clC_avs is
  have hs := strs_cl ks
  have h54 := f54 (ks.map .str) (by simp) (by simpa using hk) (by simp; omega)
  refine a33_of (by simp) ?_
  repeat refine AW.seq ?_
  refine AW.reg ?_
  have hF := True.intro
  repeat (first | refine wD1 ?_ | refine wD2 ?_ | refine wE1 ?_ | refine wE2 ?_ | (refine wE3 ?_; intro _) | (refine wE4 ?_; intro _) | refine wN ?_ | ((with_reducible show evIs _ (_ :: _) _ _); first | refine wQ ?_ | refine wF ?_ | refine wG ?_ | refine wT ?_ | refine wM ?_ | refine wS ?_ | refine wP ?_ | refine wJ ?_ | refine wX ?_ | refine wY ?_))
  clear hF
  repeat refine evDone ?_
  try (show AW _ _ _ _ _)
  repeat refine AW.seq ?_
  refine AW.draw ?_
  have hF := True.intro
  repeat (first | refine wD1 ?_ | refine wD2 ?_ | refine wE1 ?_ | refine wE2 ?_ | (refine wE3 ?_; intro _) | (refine wE4 ?_; intro _) | refine wN ?_ | ((with_reducible show evIs _ (_ :: _) _ _); first | refine wQ ?_ | refine wF ?_ | refine wG ?_ | refine wT ?_ | refine wM ?_ | refine wS ?_ | refine wP ?_ | refine wJ ?_ | refine wX ?_ | refine wY ?_))
  clear hF
  repeat refine evDone ?_
  try (show AW _ _ _ _ _)
  have hF := hc
  refine wC (hA := h) ?_
  clear hF
  have hF := True.intro
  repeat (first | refine wD1 ?_ | refine wD2 ?_ | refine wE1 ?_ | refine wE2 ?_ | (refine wE3 ?_; intro _) | (refine wE4 ?_; intro _) | refine wN ?_ | ((with_reducible show evIs _ (_ :: _) _ _); first | refine wQ ?_ | refine wF ?_ | refine wG ?_ | refine wT ?_ | refine wM ?_ | refine wS ?_ | refine wP ?_ | refine wJ ?_ | refine wX ?_ | refine wY ?_))
  clear hF
  repeat refine evDone ?_
  try (show AW _ _ _ _ _)
  have hF := hs
  refine wC (hA := h54) ?_
  clear hF
  have hF := True.intro
  repeat (first | refine wD1 ?_ | refine wD2 ?_ | refine wE1 ?_ | refine wE2 ?_ | (refine wE3 ?_; intro _) | (refine wE4 ?_; intro _) | refine wN ?_ | ((with_reducible show evIs _ (_ :: _) _ _); first | refine wQ ?_ | refine wF ?_ | refine wG ?_ | refine wT ?_ | refine wM ?_ | refine wS ?_ | refine wP ?_ | refine wJ ?_ | refine wX ?_ | refine wY ?_))
  clear hF
  repeat refine evDone ?_
  try (show AW _ _ _ _ _)
  repeat refine AW.seq ?_
  refine AW.reg ?_
  have hF := True.intro
  repeat (first | refine wD1 ?_ | refine wD2 ?_ | refine wE1 ?_ | refine wE2 ?_ | (refine wE3 ?_; intro _) | (refine wE4 ?_; intro _) | refine wN ?_ | ((with_reducible show evIs _ (_ :: _) _ _); first | refine wQ ?_ | refine wF ?_ | refine wG ?_ | refine wT ?_ | refine wM ?_ | refine wS ?_ | refine wP ?_ | refine wJ ?_ | refine wX ?_ | refine wY ?_))
  clear hF
  repeat refine evDone ?_
  try (show AW _ _ _ _ _)
  refine AW.ret (retI rfl ?_)
  simp [a33_res, resOk, resP, resV, ARes.op, R2s, R2, R1s, R1, closeOk, closeV]
theorem f53_step (m : Nat) (ih : ∀ vs, szs vs < m → okvs vs → vs.length * 80 ≤ 140737488355328 → ACall Try.prog 53 [.sl .fro (avs vs)] (· = .sl (.own 5) (avs vs)))
    (vs : List Val) (hm : szs vs ≤ m) (hok : okvs vs) (hb : vs.length * 80 ≤ 140737488355328) : ACall Try.prog 53 [.sl .fro (avs vs)] (· = .sl (.own 5) (avs vs)) := by
  refine a53_of (by simp) ?_
  repeat refine AW.seq ?_
  refine AW.reg ?_
  have hF := True.intro
  repeat (first | refine wD1 ?_ | refine wD2 ?_ | refine wE1 ?_ | refine wE2 ?_ | (refine wE3 ?_; intro _) | (refine wE4 ?_; intro _) | refine wN ?_ | ((with_reducible show evIs _ (_ :: _) _ _); first | refine wQ ?_ | refine wF ?_ | refine wG ?_ | refine wT ?_ | refine wM ?_ | refine wS ?_ | refine wP ?_ | refine wJ ?_ | refine wX ?_ | refine wY ?_))
  clear hF
  repeat refine evDone ?_
  try (show AW _ _ _ _ _)
  repeat refine AW.seq ?_
  refine AW.reg ?_
  have hF := True.intro
  repeat (first | refine wD1 ?_ | refine wD2 ?_ | refine wE1 ?_ | refine wE2 ?_ | (refine wE3 ?_; intro _) | (refine wE4 ?_; intro _) | refine wN ?_ | ((with_reducible show evIs _ (_ :: _) _ _); first | refine wQ ?_ | refine wF ?_ | refine wG ?_ | refine wT ?_ | refine wM ?_ | refine wS ?_ | refine wP ?_ | refine wJ ?_ | refine wX ?_ | refine wY ?_))
  clear hF
  repeat refine evDone ?_
  try (show AW _ _ _ _ _)
  repeat refine AW.seq ?_
  refine AW.reg ?_
  have hF := True.intro
  repeat (first | refine wD1 ?_ | refine wD2 ?_ | refine wE1 ?_ | refine wE2 ?_ | (refine wE3 ?_; intro _) | (refine wE4 ?_; intro _) | refine wN ?_ | ((with_reducible show evIs _ (_ :: _) _ _); first | refine wQ ?_ | refine wF ?_ | refine wG ?_ | refine wT ?_ | refine wM ?_ | refine wS ?_ | refine wP ?_ | refine wJ ?_ | refine wX ?_ | refine wY ?_))
  clear hF
  repeat refine evDone ?_
  try (show AW _ _ _ _ _)
  repeat refine AW.seq ?_
  refine AW.block ?_
  refine AW.loop (fun g : Nat × Nat × Nat => g.1 ≤ vs.length ∧ g.2.2 < g.2.1 ∧ 0 ≤ g.2.2 ∧ 0 ≤ g.2.1) (fun g => mkS [(3, .hdr g.2.2 0 g.1), (6, .sl .fro (avs vs)), (7, .int .i64 vs.length), (8, .int .i64 g.1)] [(g.2.2, ⟨5, false, pre Val.av vs g.1⟩)] g.2.1) (fun g => vs.length - g.1) (0, 20, 10) ⟨by simp, by simp, by simp, by simp⟩ ?_ ?_
  · refine Fit.mk _ _ _ (by simp [pre_zero, conv2, newEmp, convs_refl, convs, conv]) (by simp [pre_zero, heapFit, newEmp, conv2s, conv2, convs_refl, convs, conv]) (by intro q hq; first | (simp at hq; done) | (simp at hq; omega) | (simp at hq; simp; omega))
  · rintro ⟨i, n, r⟩ ⟨hi, hr, hbr, hbn⟩
    dsimp only at hi hr hbr hbn ⊢
    have hne : ∀ k, (r = n + k) = False := fun k => eq_false (by omega)
    have hne' : ∀ k, (n + k = r) = False := fun k => eq_false (by omega)
    have hnl : ∀ k, (n + k < n) = False := fun k => eq_false (by omega)
    have hrn : ∀ k, r < n + k := fun k => by omega

    repeat refine AW.seq ?_
    refine AW.reg ?_
    by_cases hlt : i < vs.length
    · have hF := hlt
      repeat (first | refine wD1 ?_ | refine wD2 ?_ | refine wE1 ?_ | refine wE2 ?_ | (refine wE3 ?_; intro _) | (refine wE4 ?_; intro _) | refine wN ?_ | ((with_reducible show evIs _ (_ :: _) _ _); first | refine wQ ?_ | refine wF ?_ | refine wG ?_ | refine wT ?_ | refine wM ?_ | refine wS ?_ | refine wP ?_ | refine wJ ?_ | refine wX ?_ | refine wY ?_))
      clear hF
      repeat refine evDone ?_
      try (show AW _ _ _ _ _)
      repeat refine AW.seq ?_
      refine AW.condT (by simp []) (by simp []) ?_
      refine AW.skip ?_
      show AW _ _ _ _ _
      refine AW.seq (AW.block ?_)
      have hx : ∃ x, vs[i]? = some x := ⟨_, List.getElem?_eq_getElem hlt⟩
      obtain ⟨x, hx⟩ := hx
      have he := elem_map (f := Val.av) hx
      rw [← vals_map] at he
      have hpl := pre_len (f := Val.av) hi
      have hpa := pre_add (f := Val.av) hx
      have hxm := List.mem_of_getElem? hx
      have hov := okvs_mem hok hxm
      have hsv := szs_mem hxm
      obtain ⟨k, q, t, is, ks⟩ := x
      simp only [Val.okv, Val.sz] at hov hsv
      have hc := f33_of k q t is ks hov.2.1 (ih is (by omega) hov.2.2 hov.1)
      simp only [Val.av] at he hpa
      have hby : (i + 1) * 80 ≤ 140737488355328 := by omega
      have hby2 : i + 1 ≤ 9223372036854775807 := by omega
      have hcl := clC_avs is
      have hcs := strs_cl ks
      repeat refine AW.seq ?_
      refine AW.reg ?_
      have hF := And.intro (hlt) (And.intro (he) (And.intro (hne) (And.intro (hne') (hnl))))
      repeat (first | refine wD1 ?_ | refine wD2 ?_ | refine wE1 ?_ | refine wE2 ?_ | (refine wE3 ?_; intro _) | (refine wE4 ?_; intro _) | refine wN ?_ | ((with_reducible show evIs _ (_ :: _) _ _); first | refine wQ ?_ | refine wF ?_ | refine wG ?_ | refine wT ?_ | refine wM ?_ | refine wS ?_ | refine wP ?_ | refine wJ ?_ | refine wX ?_ | refine wY ?_))
      clear hF
      repeat refine evDone ?_
      try (show AW _ _ _ _ _)
      repeat refine AW.seq ?_
      refine AW.reg ?_
      have hF := And.intro (hne) (And.intro (hne') (hnl))
      repeat (first | refine wD1 ?_ | refine wD2 ?_ | refine wE1 ?_ | refine wE2 ?_ | (refine wE3 ?_; intro _) | (refine wE4 ?_; intro _) | refine wN ?_ | ((with_reducible show evIs _ (_ :: _) _ _); first | refine wQ ?_ | refine wF ?_ | refine wG ?_ | refine wT ?_ | refine wM ?_ | refine wS ?_ | refine wP ?_ | refine wJ ?_ | refine wX ?_ | refine wY ?_))
      clear hF
      repeat refine evDone ?_
      try (show AW _ _ _ _ _)
      have hF := And.intro (hne) (And.intro (hne') (And.intro (hnl) (And.intro (hcl) (hcs))))
      refine wC (hA := hc) ?_
      clear hF
      have hF := And.intro (hne) (And.intro (hne') (And.intro (hnl) (And.intro (hpl) (And.intro (hby) (hby2)))))
      repeat (first | refine wD1 ?_ | refine wD2 ?_ | refine wE1 ?_ | refine wE2 ?_ | (refine wE3 ?_; intro _) | (refine wE4 ?_; intro _) | refine wN ?_ | ((with_reducible show evIs _ (_ :: _) _ _); first | refine wQ ?_ | refine wF ?_ | refine wG ?_ | refine wT ?_ | refine wM ?_ | refine wS ?_ | refine wP ?_ | refine wJ ?_ | refine wX ?_ | refine wY ?_))
      clear hF
      repeat refine evDone ?_
      try (show AW _ _ _ _ _)
      refine AW.reg ?_
      have hw : IntKind.i64.wrap ((i : Int) + 1) = (i : Int) + 1 := i64_in _ ⟨by omega, by omega⟩
      have hF := hw
      repeat (first | refine wD1 ?_ | refine wD2 ?_ | refine wE1 ?_ | refine wE2 ?_ | (refine wE3 ?_; intro _) | (refine wE4 ?_; intro _) | refine wN ?_ | ((with_reducible show evIs _ (_ :: _) _ _); first | refine wQ ?_ | refine wF ?_ | refine wG ?_ | refine wT ?_ | refine wM ?_ | refine wS ?_ | refine wP ?_ | refine wJ ?_ | refine wX ?_ | refine wY ?_))
      clear hF
      repeat refine evDone ?_
      try (show AW _ _ _ _ _)
      refine ⟨(i + 1, n + 60, n + 14), ⟨by dsimp only; omega, by dsimp only; omega, by dsimp only; omega, by dsimp only; omega⟩, by dsimp only; omega, ?_⟩
      refine Fit.mk _ _ _ (by simp [hw, hne, hne', hrn, hpl, hpa, conv2, newEmp, convs_refl, convs, conv]) (by simp [hw, hne, hne', hrn, hpl, hpa, heapFit, newEmp, conv2s, conv2, convs_refl, convs, conv]) (by intro q hq; first | (simp at hq; done) | (simp at hq; omega) | (simp at hq; simp; omega))
    · have hlt2 : ¬ (i : Int) < vs.length := by omega
      have hF := And.intro (hlt) (hlt2)
      repeat (first | refine wD1 ?_ | refine wD2 ?_ | refine wE1 ?_ | refine wE2 ?_ | (refine wE3 ?_; intro _) | (refine wE4 ?_; intro _) | refine wN ?_ | ((with_reducible show evIs _ (_ :: _) _ _); first | refine wQ ?_ | refine wF ?_ | refine wG ?_ | refine wT ?_ | refine wM ?_ | refine wS ?_ | refine wP ?_ | refine wJ ?_ | refine wX ?_ | refine wY ?_))
      clear hF
      repeat refine evDone ?_
      try (show AW _ _ _ _ _)
      repeat refine AW.seq ?_
      refine AW.condF (by simp []) (by simp []) ?_
      refine AW.exit ?_
      show AW _ _ _ _ _
      have hii : i = vs.length := by omega
      subst hii
      have ht : (avs vs).take vs.length = avs vs := List.take_of_length_le (by simp)
      have hpf : pre Val.av vs vs.length = avs vs := by rw [pre_full, vals_map]
      repeat refine AW.seq ?_
      refine AW.reg ?_
      have hF := And.intro (hne) (And.intro (hne') (hnl))
      repeat (first | refine wD1 ?_ | refine wD2 ?_ | refine wE1 ?_ | refine wE2 ?_ | (refine wE3 ?_; intro _) | (refine wE4 ?_; intro _) | refine wN ?_ | ((with_reducible show evIs _ (_ :: _) _ _); first | refine wQ ?_ | refine wF ?_ | refine wG ?_ | refine wT ?_ | refine wM ?_ | refine wS ?_ | refine wP ?_ | refine wJ ?_ | refine wX ?_ | refine wY ?_))
      clear hF
      repeat refine evDone ?_
      try (show AW _ _ _ _ _)
      refine AW.ret (retI rfl ?_)
      simp [hpf, ht, a53_res, resOk, resP, resV, ARes.op, R2s, R2, R1s, R1, closeOk, closeV]
theorem f53 (vs : List Val) (hok : okvs vs) (hb : vs.length * 80 ≤ 140737488355328) : ACall Try.prog 53 [.sl .fro (avs vs)] (· = .sl (.own 5) (avs vs)) := by
  have key : ∀ (m : Nat) (vs : List Val), szs vs ≤ m → okvs vs → vs.length * 80 ≤ 140737488355328 → ACall Try.prog 53 [.sl .fro (avs vs)] (· = .sl (.own 5) (avs vs)) := by
    intro m
    induction m using Nat.strongRecOn with
    | _ m ih => exact fun vs hm hok hb => f53_step m (fun vs' h => ih (szs vs') h vs' (Nat.le_refl _)) vs hm hok hb
  exact key _ vs (Nat.le_refl _) hok hb
theorem f33 (k n : Int) (t : ByteArray) (is : List Val) (ks : List ByteArray) (h : (Val.mk k n t is ks).okv) :
    ACall Try.prog 33 [.agg [.int .i64 k, .int .i64 n, .str t, .sl .fro (avs is), .sl .fro (ks.map .str)]] (· = .agg [.int .i64 k, .int .i64 n, .str t, .sl .fro (avs is), .sl .fro (ks.map .str)]) := by
  simp only [Val.okv] at h
  exact f33_of k n t is ks h.2.1 (f53 is h.2.2 h.1)
theorem f60 (vs : List Val) (hok : okvs vs) (hb : vs.length * 80 ≤ 140737488355328) : ACall Try.prog 60 [.sl .fro (avs vs)] (· = .agg [.int .i64 4, .int .i64 0, .str ⟨#[]⟩, .sl (.own 5) (avs vs), .sl .ext []]) := by
  have h53 := f53 vs hok hb
  have ht : (avs vs).take vs.length = avs vs := List.take_of_length_le (by simp)
  refine a60_of (by simp) ?_
  repeat refine AW.seq ?_
  refine AW.reg ?_
  have hF := True.intro
  repeat (first | refine wD1 ?_ | refine wD2 ?_ | refine wE1 ?_ | refine wE2 ?_ | (refine wE3 ?_; intro _) | (refine wE4 ?_; intro _) | refine wN ?_ | ((with_reducible show evIs _ (_ :: _) _ _); first | refine wQ ?_ | refine wF ?_ | refine wG ?_ | refine wT ?_ | refine wM ?_ | refine wS ?_ | refine wP ?_ | refine wJ ?_ | refine wX ?_ | refine wY ?_))
  clear hF
  repeat refine evDone ?_
  try (show AW _ _ _ _ _)
  repeat refine AW.seq ?_
  refine AW.reg ?_
  have hF := True.intro
  repeat (first | refine wD1 ?_ | refine wD2 ?_ | refine wE1 ?_ | refine wE2 ?_ | (refine wE3 ?_; intro _) | (refine wE4 ?_; intro _) | refine wN ?_ | ((with_reducible show evIs _ (_ :: _) _ _); first | refine wQ ?_ | refine wF ?_ | refine wG ?_ | refine wT ?_ | refine wM ?_ | refine wS ?_ | refine wP ?_ | refine wJ ?_ | refine wX ?_ | refine wY ?_))
  clear hF
  repeat refine evDone ?_
  try (show AW _ _ _ _ _)
  have hF := True.intro
  refine wA (hA := h53) ?_
  clear hF
  have hF := True.intro
  repeat (first | refine wD1 ?_ | refine wD2 ?_ | refine wE1 ?_ | refine wE2 ?_ | (refine wE3 ?_; intro _) | (refine wE4 ?_; intro _) | refine wN ?_ | ((with_reducible show evIs _ (_ :: _) _ _); first | refine wQ ?_ | refine wF ?_ | refine wG ?_ | refine wT ?_ | refine wM ?_ | refine wS ?_ | refine wP ?_ | refine wJ ?_ | refine wX ?_ | refine wY ?_))
  clear hF
  repeat refine evDone ?_
  try (show AW _ _ _ _ _)
  refine AW.ret (retI rfl ?_)
  simp [ht, a60_res, resOk, resP, resV, ARes.op, R2s, R2, R1s, R1, closeOk, closeV]
theorem f60b (N : Nat) (vs : List Val) (hok : okvs vs) (hb : vs.length * 80 ≤ 140737488355328) :
    BCall Try.prog 60 [] N [.sl .fro (avs vs)] (fun H1 n' v => H1 = [(N + 2, ⟨5, false, avs vs⟩)] ∧ n' = N + 20 ∧ v = .agg [.int .i64 4, .int .i64 0, .str ⟨#[]⟩, .hdr (N + 2) 0 vs.length, .sl .ext []]) := by
  have h53 := f53 vs hok hb
  have hnl : ∀ k, (N + k < N) = False := fun k => eq_false (by omega)
  refine bcall_coded a60_ok (by simp) ?_
  repeat refine AW.seq ?_
  refine AW.reg ?_
  have hF := hnl
  repeat (first | refine wD1 ?_ | refine wD2 ?_ | refine wE1 ?_ | refine wE2 ?_ | (refine wE3 ?_; intro _) | (refine wE4 ?_; intro _) | refine wN ?_ | ((with_reducible show evIs _ (_ :: _) _ _); first | refine wQ ?_ | refine wF ?_ | refine wG ?_ | refine wT ?_ | refine wM ?_ | refine wS ?_ | refine wP ?_ | refine wJ ?_ | refine wX ?_ | refine wY ?_))
  clear hF
  repeat refine evDone ?_
  try (show AW _ _ _ _ _)
  repeat refine AW.seq ?_
  refine AW.reg ?_
  have hF := hnl
  repeat (first | refine wD1 ?_ | refine wD2 ?_ | refine wE1 ?_ | refine wE2 ?_ | (refine wE3 ?_; intro _) | (refine wE4 ?_; intro _) | refine wN ?_ | ((with_reducible show evIs _ (_ :: _) _ _); first | refine wQ ?_ | refine wF ?_ | refine wG ?_ | refine wT ?_ | refine wM ?_ | refine wS ?_ | refine wP ?_ | refine wJ ?_ | refine wX ?_ | refine wY ?_))
  clear hF
  repeat refine evDone ?_
  try (show AW _ _ _ _ _)
  have hF := hnl
  refine wA (hA := h53) ?_
  clear hF
  have hF := hnl
  repeat (first | refine wD1 ?_ | refine wD2 ?_ | refine wE1 ?_ | refine wE2 ?_ | (refine wE3 ?_; intro _) | (refine wE4 ?_; intro _) | refine wN ?_ | ((with_reducible show evIs _ (_ :: _) _ _); first | refine wQ ?_ | refine wF ?_ | refine wG ?_ | refine wT ?_ | refine wM ?_ | refine wS ?_ | refine wP ?_ | refine wJ ?_ | refine wX ?_ | refine wY ?_))
  clear hF
  repeat refine evDone ?_
  try (show AW _ _ _ _ _)
  refine AW.ret ⟨by simp [resP, a60_res, ARes.op], [(N + 2, ⟨5, false, avs vs⟩)], N + 20, [.agg [.int .i64 4, .int .i64 0, .str ⟨#[]⟩, .hdr (N + 2) 0 vs.length, .sl .ext []]], ⟨rfl, rfl, rfl⟩, by omega, by simp, rfl, by simp, ?_⟩
  simp only [resV, a60_res, List.map_cons, List.map_nil, ARes.op]
  refine Fit.mk _ _ _ (by simp [hnl, conv2, newEmp, convs_refl, convs, conv]) (by simp [hnl, heapFit, newEmp, conv2s, conv2, convs_refl, convs, conv]) (by intro q hq; first | (simp at hq; done) | (simp at hq; omega) | (simp at hq; simp; omega))
theorem f56 (vs : List Val) (hok : okvs vs) (hb : vs.length * 80 ≤ 140737488355328) : ACall Try.prog 56 [.sl .fro (avs vs)] (· = .sl .fro (avs vs)) := by
  have h60 := f60 vs hok hb
  have hc := clC_avs vs
  refine a56_of (by simp) ?_
  repeat refine AW.seq ?_
  refine AW.reg ?_
  have hF := True.intro
  repeat (first | refine wD1 ?_ | refine wD2 ?_ | refine wE1 ?_ | refine wE2 ?_ | (refine wE3 ?_; intro _) | (refine wE4 ?_; intro _) | refine wN ?_ | ((with_reducible show evIs _ (_ :: _) _ _); first | refine wQ ?_ | refine wF ?_ | refine wG ?_ | refine wT ?_ | refine wM ?_ | refine wS ?_ | refine wP ?_ | refine wJ ?_ | refine wX ?_ | refine wY ?_))
  clear hF
  repeat refine evDone ?_
  try (show AW _ _ _ _ _)
  repeat refine AW.seq ?_
  refine AW.reg ?_
  have hF := True.intro
  repeat (first | refine wD1 ?_ | refine wD2 ?_ | refine wE1 ?_ | refine wE2 ?_ | (refine wE3 ?_; intro _) | (refine wE4 ?_; intro _) | refine wN ?_ | ((with_reducible show evIs _ (_ :: _) _ _); first | refine wQ ?_ | refine wF ?_ | refine wG ?_ | refine wT ?_ | refine wM ?_ | refine wS ?_ | refine wP ?_ | refine wJ ?_ | refine wX ?_ | refine wY ?_))
  clear hF
  repeat refine evDone ?_
  try (show AW _ _ _ _ _)
  have hF := hc
  refine wC (hA := h60) ?_
  clear hF
  have hF := True.intro
  repeat (first | refine wD1 ?_ | refine wD2 ?_ | refine wE1 ?_ | refine wE2 ?_ | (refine wE3 ?_; intro _) | (refine wE4 ?_; intro _) | refine wN ?_ | ((with_reducible show evIs _ (_ :: _) _ _); first | refine wQ ?_ | refine wF ?_ | refine wG ?_ | refine wT ?_ | refine wM ?_ | refine wS ?_ | refine wP ?_ | refine wJ ?_ | refine wX ?_ | refine wY ?_))
  clear hF
  repeat refine evDone ?_
  try (show AW _ _ _ _ _)
  refine AW.ret (retI rfl ?_)
  simp [a56_res, resOk, resP, resV, ARes.op, R2s, R2, R1s, R1, closeOk, closeV]
theorem f56b (N : Nat) (vs : List Val) (hok : okvs vs) (hb : vs.length * 80 ≤ 140737488355328) :
    BCall Try.prog 56 [] N [.sl .fro (avs vs)] (fun H1 n' v => H1 = [(N + 100 + 2, ⟨5, false, avs vs⟩)] ∧ n' = N + 120 ∧ v = .hdr (N + 100 + 2) 0 vs.length) := by
  have h60 := f60b (N + 100) vs hok hb
  have hnl : ∀ k, (N + k < N) = False := fun k => eq_false (by omega)
  refine bcall_coded a56_ok (by simp) ?_
  repeat refine AW.seq ?_
  refine AW.reg ?_
  have hF := hnl
  repeat (first | refine wD1 ?_ | refine wD2 ?_ | refine wE1 ?_ | refine wE2 ?_ | (refine wE3 ?_; intro _) | (refine wE4 ?_; intro _) | refine wN ?_ | ((with_reducible show evIs _ (_ :: _) _ _); first | refine wQ ?_ | refine wF ?_ | refine wG ?_ | refine wT ?_ | refine wM ?_ | refine wS ?_ | refine wP ?_ | refine wJ ?_ | refine wX ?_ | refine wY ?_))
  clear hF
  repeat refine evDone ?_
  try (show AW _ _ _ _ _)
  repeat refine AW.seq ?_
  refine AW.reg ?_
  have hF := hnl
  repeat (first | refine wD1 ?_ | refine wD2 ?_ | refine wE1 ?_ | refine wE2 ?_ | (refine wE3 ?_; intro _) | (refine wE4 ?_; intro _) | refine wN ?_ | ((with_reducible show evIs _ (_ :: _) _ _); first | refine wQ ?_ | refine wF ?_ | refine wG ?_ | refine wT ?_ | refine wM ?_ | refine wS ?_ | refine wP ?_ | refine wJ ?_ | refine wX ?_ | refine wY ?_))
  clear hF
  repeat refine evDone ?_
  try (show AW _ _ _ _ _)
  have hF := hnl
  refine wL (hA := h60) ?_
  clear hF
  rintro _ _ _ ⟨rfl, rfl, rfl⟩
  have hF := hnl
  repeat (first | refine wD1 ?_ | refine wD2 ?_ | refine wE1 ?_ | refine wE2 ?_ | (refine wE3 ?_; intro _) | (refine wE4 ?_; intro _) | refine wN ?_ | ((with_reducible show evIs _ (_ :: _) _ _); first | refine wQ ?_ | refine wF ?_ | refine wG ?_ | refine wT ?_ | refine wM ?_ | refine wS ?_ | refine wP ?_ | refine wJ ?_ | refine wX ?_ | refine wY ?_))
  clear hF
  repeat refine evDone ?_
  try (show AW _ _ _ _ _)
  refine AW.ret ⟨by simp [resP, a56_res, ARes.op], [(N + 100 + 2, ⟨5, false, avs vs⟩)], N + 120, [.hdr (N + 100 + 2) 0 vs.length], ⟨rfl, rfl, rfl⟩, by omega, by simp; omega, rfl, by simp, ?_⟩
  simp only [resV, a56_res, List.map_cons, List.map_nil, ARes.op]
  refine Fit.mk _ _ _ (by simp [hnl, conv2, newEmp, convs_refl, convs, conv]) (by simp [hnl, heapFit, newEmp, conv2s, conv2, convs_refl, convs, conv]) (by intro q hq; first | (simp at hq; done) | (simp at hq; omega) | (simp at hq; simp; omega))
end Go.Proofs.Ytafkaofaioleiaa

set_option linter.unusedSimpArgs false
set_option linter.unusedVariables false
set_option maxHeartbeats 4000000
namespace Go.Proofs.Ytafkaofaioleiaa
open Go Go.Amb Go.IntWalk

theorem f40_step (m : Nat) (ih : ∀ v : Val, v.sz < m → v.okv → ACall Try.prog 40 [v.av] (· = v.am)) (v : Val) (hm : v.sz ≤ m) (hok : v.okv) : ACall Try.prog 40 [v.av] (· = v.am) := by
  obtain ⟨k, n, t, is, ks⟩ := v
  simp only [Val.av, Val.sz, Val.okv, Val.am] at hm hok ⊢
  have hk0 : ks.length * 16 ≤ 140737488355328 := hok.2.1
  have hk1 : ks.length ≤ 9223372036854775807 := by omega
  refine a40_of (by simp) ?_
  repeat refine AW.seq ?_
  refine AW.reg ?_
  have hF := True.intro
  repeat (first | refine wD1 ?_ | refine wD2 ?_ | refine wE1 ?_ | refine wE2 ?_ | (refine wE3 ?_; intro _) | (refine wE4 ?_; intro _) | refine wN ?_ | ((with_reducible show evIs _ (_ :: _) _ _); first | refine wQ ?_ | refine wF ?_ | refine wG ?_ | refine wT ?_ | refine wM ?_ | refine wS ?_ | refine wP ?_ | refine wJ ?_ | refine wX ?_ | refine wY ?_))
  clear hF
  repeat refine evDone ?_
  try (show AW _ _ _ _ _)
  repeat refine AW.seq ?_
  refine AW.reg ?_
  have hF := True.intro
  repeat (first | refine wD1 ?_ | refine wD2 ?_ | refine wE1 ?_ | refine wE2 ?_ | (refine wE3 ?_; intro _) | (refine wE4 ?_; intro _) | refine wN ?_ | ((with_reducible show evIs _ (_ :: _) _ _); first | refine wQ ?_ | refine wF ?_ | refine wG ?_ | refine wT ?_ | refine wM ?_ | refine wS ?_ | refine wP ?_ | refine wJ ?_ | refine wX ?_ | refine wY ?_))
  clear hF
  repeat refine evDone ?_
  try (show AW _ _ _ _ _)
  repeat refine AW.seq ?_
  refine AW.reg ?_
  have hF := True.intro
  repeat (first | refine wD1 ?_ | refine wD2 ?_ | refine wE1 ?_ | refine wE2 ?_ | (refine wE3 ?_; intro _) | (refine wE4 ?_; intro _) | refine wN ?_ | ((with_reducible show evIs _ (_ :: _) _ _); first | refine wQ ?_ | refine wF ?_ | refine wG ?_ | refine wT ?_ | refine wM ?_ | refine wS ?_ | refine wP ?_ | refine wJ ?_ | refine wX ?_ | refine wY ?_))
  clear hF
  repeat refine evDone ?_
  try (show AW _ _ _ _ _)
  repeat refine AW.seq ?_
  refine AW.reg ?_
  have hF := True.intro
  repeat (first | refine wD1 ?_ | refine wD2 ?_ | refine wE1 ?_ | refine wE2 ?_ | (refine wE3 ?_; intro _) | (refine wE4 ?_; intro _) | refine wN ?_ | ((with_reducible show evIs _ (_ :: _) _ _); first | refine wQ ?_ | refine wF ?_ | refine wG ?_ | refine wT ?_ | refine wM ?_ | refine wS ?_ | refine wP ?_ | refine wJ ?_ | refine wX ?_ | refine wY ?_))
  clear hF
  repeat refine evDone ?_
  try (show AW _ _ _ _ _)
  repeat refine AW.seq ?_
  refine AW.block ?_
  refine AW.loop (fun g : Nat × Nat × Nat => g.1 ≤ is.length ∧ g.2.2 < g.2.1 ∧ 10 ≤ g.2.2 ∧ 10 ≤ g.2.1) (fun g => mkS [(1, .ptr 0 0 0), (2, .ptr 1 0 0), (3, .ptr 3 0 0), (9, .sl .fro (avs is)), (10, .int .i64 is.length), (11, .int .i64 g.1)] [(0, ⟨5, true, [.agg [.int .i64 k, .int .i64 n, .str t, .sl .fro (avs is), .sl .fro (ks.map .str)]]⟩), (1, ⟨5, true, [.agg [.int .i64 0, .int .i64 0, .str ⟨#[]⟩, .sl .ext [], .sl .ext []]]⟩), (3, ⟨5, true, [.agg [.int .i64 k, .int .i64 n, .str t, .hdr g.2.2 0 g.1, .sl .fro (ks.map .str)]]⟩), (g.2.2, ⟨5, false, pre Val.av is g.1⟩)] g.2.1) (fun g => is.length - g.1) (0, 30, 20) ⟨by simp, by simp, by simp, by simp⟩ ?_ ?_
  · refine Fit.mk _ _ _ (by simp [pre_zero, conv2, newEmp, convs_refl, convs, conv]) (by simp [pre_zero, heapFit, newEmp, conv2s, conv2, convs_refl, convs, conv]) (by intro q hq; first | (simp at hq; done) | (simp at hq; omega) | (simp at hq; simp; omega))
  · rintro ⟨i, n, r⟩ ⟨hi, hr, hbr, hbn⟩
    dsimp only at hi hr hbr hbn ⊢
    have hne : ∀ k, (r = n + k) = False := fun k => eq_false (by omega)
    have hne' : ∀ k, (n + k = r) = False := fun k => eq_false (by omega)
    have hnl : ∀ k, (n + k < n) = False := fun k => eq_false (by omega)
    have hrn : ∀ k, r < n + k := fun k => by omega
    have hl0 : (r = 0) = False := eq_false (by omega)
    have hm0 : (0 = r) = False := eq_false (by omega)
    have hb0 : ∀ k, 0 < n + k := fun k => by omega
    have hc0 : 0 < n := by omega
    have hl1 : (r = 1) = False := eq_false (by omega)
    have hm1 : (1 = r) = False := eq_false (by omega)
    have hb1 : ∀ k, 1 < n + k := fun k => by omega
    have hc1 : 1 < n := by omega
    have hl3 : (r = 3) = False := eq_false (by omega)
    have hm3 : (3 = r) = False := eq_false (by omega)
    have hb3 : ∀ k, 3 < n + k := fun k => by omega
    have hc3 : 3 < n := by omega

    repeat refine AW.seq ?_
    refine AW.reg ?_
    by_cases hlt : i < is.length
    · have hF := hlt
      repeat (first | refine wD1 ?_ | refine wD2 ?_ | refine wE1 ?_ | refine wE2 ?_ | (refine wE3 ?_; intro _) | (refine wE4 ?_; intro _) | refine wN ?_ | ((with_reducible show evIs _ (_ :: _) _ _); first | refine wQ ?_ | refine wF ?_ | refine wG ?_ | refine wT ?_ | refine wM ?_ | refine wS ?_ | refine wP ?_ | refine wJ ?_ | refine wX ?_ | refine wY ?_))
      clear hF
      repeat refine evDone ?_
      try (show AW _ _ _ _ _)
      repeat refine AW.seq ?_
      refine AW.condT (by simp []) (by simp []) ?_
      refine AW.skip ?_
      show AW _ _ _ _ _
      refine AW.seq (AW.block ?_)
      have hx : ∃ x, is[i]? = some x := ⟨_, List.getElem?_eq_getElem hlt⟩
      obtain ⟨x, hx⟩ := hx
      have he := elem_map (f := Val.av) hx
      rw [← vals_map] at he
      have hpl := pre_len (f := Val.av) hi
      have hpa := pre_add (f := Val.av) hx
      have hxm := List.mem_of_getElem? hx
      have hov := okvs_mem hok.2.2 hxm
      have hsv := szs_mem hxm
      have hc := ih x (by omega) hov
      obtain ⟨k', q, t', is', ks'⟩ := x
      simp only [Val.av, Val.am] at he hpa hc
      have hby : (i + 1) * 80 ≤ 140737488355328 := by omega
      have hby2 : i + 1 ≤ 9223372036854775807 := by omega
      have hcl := clC_avs is'
      have hcs := strs_cl ks'
      repeat refine AW.seq ?_
      refine AW.reg ?_
      have hF := And.intro (hlt) (And.intro (he) (And.intro (hne) (And.intro (hne') (And.intro (hnl) (And.intro (hl0) (And.intro (hl1) (And.intro (hl3) (And.intro (hm0) (And.intro (hm1) (hm3))))))))))
      repeat (first | refine wD1 ?_ | refine wD2 ?_ | refine wE1 ?_ | refine wE2 ?_ | (refine wE3 ?_; intro _) | (refine wE4 ?_; intro _) | refine wN ?_ | ((with_reducible show evIs _ (_ :: _) _ _); first | refine wQ ?_ | refine wF ?_ | refine wG ?_ | refine wT ?_ | refine wM ?_ | refine wS ?_ | refine wP ?_ | refine wJ ?_ | refine wX ?_ | refine wY ?_))
      clear hF
      repeat refine evDone ?_
      try (show AW _ _ _ _ _)
      repeat refine AW.seq ?_
      refine AW.draw ?_
      have hF := And.intro (hlt) (And.intro (he) (And.intro (hne) (And.intro (hne') (And.intro (hnl) (And.intro (hl0) (And.intro (hl1) (And.intro (hl3) (And.intro (hm0) (And.intro (hm1) (hm3))))))))))
      repeat (first | refine wD1 ?_ | refine wD2 ?_ | refine wE1 ?_ | refine wE2 ?_ | (refine wE3 ?_; intro _) | (refine wE4 ?_; intro _) | refine wN ?_ | ((with_reducible show evIs _ (_ :: _) _ _); first | refine wQ ?_ | refine wF ?_ | refine wG ?_ | refine wT ?_ | refine wM ?_ | refine wS ?_ | refine wP ?_ | refine wJ ?_ | refine wX ?_ | refine wY ?_))
      clear hF
      repeat refine evDone ?_
      try (show AW _ _ _ _ _)
      have hF := And.intro (hne) (And.intro (hne') (And.intro (hnl) (And.intro (hcl) (hcs))))
      refine wC (hA := hc) ?_
      clear hF
      have hF := And.intro (hne) (And.intro (hne') (And.intro (hnl) (And.intro (hpl) (And.intro (hby) (And.intro (hby2) (And.intro (hl0) (And.intro (hl1) (And.intro (hl3) (And.intro (hm0) (And.intro (hm1) (hm3)))))))))))
      repeat (first | refine wD1 ?_ | refine wD2 ?_ | refine wE1 ?_ | refine wE2 ?_ | (refine wE3 ?_; intro _) | (refine wE4 ?_; intro _) | refine wN ?_ | ((with_reducible show evIs _ (_ :: _) _ _); first | refine wQ ?_ | refine wF ?_ | refine wG ?_ | refine wT ?_ | refine wM ?_ | refine wS ?_ | refine wP ?_ | refine wJ ?_ | refine wX ?_ | refine wY ?_))
      clear hF
      repeat refine evDone ?_
      try (show AW _ _ _ _ _)
      refine AW.reg ?_
      have hw : IntKind.i64.wrap ((i : Int) + 1) = (i : Int) + 1 := i64_in _ ⟨by omega, by omega⟩
      have hF := hw
      repeat (first | refine wD1 ?_ | refine wD2 ?_ | refine wE1 ?_ | refine wE2 ?_ | (refine wE3 ?_; intro _) | (refine wE4 ?_; intro _) | refine wN ?_ | ((with_reducible show evIs _ (_ :: _) _ _); first | refine wQ ?_ | refine wF ?_ | refine wG ?_ | refine wT ?_ | refine wM ?_ | refine wS ?_ | refine wP ?_ | refine wJ ?_ | refine wX ?_ | refine wY ?_))
      clear hF
      repeat refine evDone ?_
      try (show AW _ _ _ _ _)
      refine ⟨(i + 1, n + 60, n + 21), ⟨by dsimp only; omega, by dsimp only; omega, by dsimp only; omega, by dsimp only; omega⟩, by dsimp only; omega, ?_⟩
      refine Fit.mk _ _ _ (by simp [hw, hne, hne', hrn, hl0, hm0, hb0, hc0, hl1, hm1, hb1, hc1, hl3, hm3, hb3, hc3, hpl, hpa, conv2, newEmp, convs_refl, convs, conv]) (by simp [hw, hne, hne', hrn, hl0, hm0, hb0, hc0, hl1, hm1, hb1, hc1, hl3, hm3, hb3, hc3, hpl, hpa, heapFit, newEmp, conv2s, conv2, convs_refl, convs, conv]) (by intro q hq; first | (simp at hq; done) | (simp at hq; omega) | (simp at hq; simp; omega))
    · have hlt2 : ¬ (i : Int) < is.length := by omega
      have hF := And.intro (hlt) (hlt2)
      repeat (first | refine wD1 ?_ | refine wD2 ?_ | refine wE1 ?_ | refine wE2 ?_ | (refine wE3 ?_; intro _) | (refine wE4 ?_; intro _) | refine wN ?_ | ((with_reducible show evIs _ (_ :: _) _ _); first | refine wQ ?_ | refine wF ?_ | refine wG ?_ | refine wT ?_ | refine wM ?_ | refine wS ?_ | refine wP ?_ | refine wJ ?_ | refine wX ?_ | refine wY ?_))
      clear hF
      repeat refine evDone ?_
      try (show AW _ _ _ _ _)
      repeat refine AW.seq ?_
      refine AW.condF (by simp []) (by simp []) ?_
      refine AW.exit ?_
      show AW _ _ _ _ _
      have hii : i = is.length := by omega
      subst hii
      have ht : (avs is).take is.length = avs is := List.take_of_length_le (by simp)
      have ht2 : (ks.map AV.str).take ks.length = ks.map .str := List.take_of_length_le (by simp)
      have hpf : pre Val.av is is.length = avs is := by rw [pre_full, vals_map]
      repeat refine AW.seq ?_
      refine AW.reg ?_
      have hF := And.intro (hk0) (And.intro (hk1) (And.intro (hne) (And.intro (hne') (And.intro (hnl) (And.intro (hl0) (And.intro (hl1) (And.intro (hl3) (And.intro (hm0) (And.intro (hm1) (hm3))))))))))
      repeat (first | refine wD1 ?_ | refine wD2 ?_ | refine wE1 ?_ | refine wE2 ?_ | (refine wE3 ?_; intro _) | (refine wE4 ?_; intro _) | refine wN ?_ | ((with_reducible show evIs _ (_ :: _) _ _); first | refine wQ ?_ | refine wF ?_ | refine wG ?_ | refine wT ?_ | refine wM ?_ | refine wS ?_ | refine wP ?_ | refine wJ ?_ | refine wX ?_ | refine wY ?_))
      clear hF
      repeat refine evDone ?_
      try (show AW _ _ _ _ _)
      repeat refine AW.seq ?_
      refine AW.reg ?_
      have hF := And.intro (hne) (And.intro (hne') (And.intro (hnl) (And.intro (hl0) (And.intro (hl1) (And.intro (hl3) (And.intro (hm0) (And.intro (hm1) (hm3))))))))
      repeat (first | refine wD1 ?_ | refine wD2 ?_ | refine wE1 ?_ | refine wE2 ?_ | (refine wE3 ?_; intro _) | (refine wE4 ?_; intro _) | refine wN ?_ | ((with_reducible show evIs _ (_ :: _) _ _); first | refine wQ ?_ | refine wF ?_ | refine wG ?_ | refine wT ?_ | refine wM ?_ | refine wS ?_ | refine wP ?_ | refine wJ ?_ | refine wX ?_ | refine wY ?_))
      clear hF
      repeat refine evDone ?_
      try (show AW _ _ _ _ _)
      refine AW.ret (retI rfl ?_)
      simp [hpf, ht, ht2, hne, hne', hl0, hl1, hl3, hm0, hm1, hm3, a40_res, resOk, resP, resV, ARes.op, R2s, R2, R1s, R1, closeOk, closeV]
theorem f40 (v : Val) (hok : v.okv) : ACall Try.prog 40 [v.av] (· = v.am) := by
  have key : ∀ (m : Nat) (v : Val), v.sz ≤ m → v.okv → ACall Try.prog 40 [v.av] (· = v.am) := by
    intro m
    induction m using Nat.strongRecOn with
    | _ m ih => exact fun v hm hok => f40_step m (fun v' h ho => ih v'.sz h v' (Nat.le_refl _) ho) v hm hok
  exact key _ v (Nat.le_refl _) hok
theorem f57 (vs : List Val) (hok : okvs vs) (hb : vs.length * 80 ≤ 140737488355328) : ACall Try.prog 57 [.sl .fro (avs vs)] (· = .sl (.own 5) (avs vs)) := by
  refine a57_of (by simp) ?_
  repeat refine AW.seq ?_
  refine AW.reg ?_
  have hF := True.intro
  repeat (first | refine wD1 ?_ | refine wD2 ?_ | refine wE1 ?_ | refine wE2 ?_ | (refine wE3 ?_; intro _) | (refine wE4 ?_; intro _) | refine wN ?_ | ((with_reducible show evIs _ (_ :: _) _ _); first | refine wQ ?_ | refine wF ?_ | refine wG ?_ | refine wT ?_ | refine wM ?_ | refine wS ?_ | refine wP ?_ | refine wJ ?_ | refine wX ?_ | refine wY ?_))
  clear hF
  repeat refine evDone ?_
  try (show AW _ _ _ _ _)
  repeat refine AW.seq ?_
  refine AW.reg ?_
  have hF := True.intro
  repeat (first | refine wD1 ?_ | refine wD2 ?_ | refine wE1 ?_ | refine wE2 ?_ | (refine wE3 ?_; intro _) | (refine wE4 ?_; intro _) | refine wN ?_ | ((with_reducible show evIs _ (_ :: _) _ _); first | refine wQ ?_ | refine wF ?_ | refine wG ?_ | refine wT ?_ | refine wM ?_ | refine wS ?_ | refine wP ?_ | refine wJ ?_ | refine wX ?_ | refine wY ?_))
  clear hF
  repeat refine evDone ?_
  try (show AW _ _ _ _ _)
  repeat refine AW.seq ?_
  refine AW.reg ?_
  have hF := True.intro
  repeat (first | refine wD1 ?_ | refine wD2 ?_ | refine wE1 ?_ | refine wE2 ?_ | (refine wE3 ?_; intro _) | (refine wE4 ?_; intro _) | refine wN ?_ | ((with_reducible show evIs _ (_ :: _) _ _); first | refine wQ ?_ | refine wF ?_ | refine wG ?_ | refine wT ?_ | refine wM ?_ | refine wS ?_ | refine wP ?_ | refine wJ ?_ | refine wX ?_ | refine wY ?_))
  clear hF
  repeat refine evDone ?_
  try (show AW _ _ _ _ _)
  repeat refine AW.seq ?_
  refine AW.block ?_
  refine AW.loop (fun g : Nat × Nat × Nat => g.1 ≤ vs.length ∧ g.2.2 < g.2.1 ∧ 0 ≤ g.2.2 ∧ 0 ≤ g.2.1) (fun g => mkS [(3, .hdr g.2.2 0 g.1), (6, .sl .fro (avs vs)), (7, .int .i64 vs.length), (8, .int .i64 g.1)] [(g.2.2, ⟨5, false, pre Val.av vs g.1⟩)] g.2.1) (fun g => vs.length - g.1) (0, 20, 10) ⟨by simp, by simp, by simp, by simp⟩ ?_ ?_
  · refine Fit.mk _ _ _ (by simp [pre_zero, conv2, newEmp, convs_refl, convs, conv]) (by simp [pre_zero, heapFit, newEmp, conv2s, conv2, convs_refl, convs, conv]) (by intro q hq; first | (simp at hq; done) | (simp at hq; omega) | (simp at hq; simp; omega))
  · rintro ⟨i, n, r⟩ ⟨hi, hr, hbr, hbn⟩
    dsimp only at hi hr hbr hbn ⊢
    have hne : ∀ k, (r = n + k) = False := fun k => eq_false (by omega)
    have hne' : ∀ k, (n + k = r) = False := fun k => eq_false (by omega)
    have hnl : ∀ k, (n + k < n) = False := fun k => eq_false (by omega)
    have hrn : ∀ k, r < n + k := fun k => by omega

    repeat refine AW.seq ?_
    refine AW.reg ?_
    by_cases hlt : i < vs.length
    · have hF := hlt
      repeat (first | refine wD1 ?_ | refine wD2 ?_ | refine wE1 ?_ | refine wE2 ?_ | (refine wE3 ?_; intro _) | (refine wE4 ?_; intro _) | refine wN ?_ | ((with_reducible show evIs _ (_ :: _) _ _); first | refine wQ ?_ | refine wF ?_ | refine wG ?_ | refine wT ?_ | refine wM ?_ | refine wS ?_ | refine wP ?_ | refine wJ ?_ | refine wX ?_ | refine wY ?_))
      clear hF
      repeat refine evDone ?_
      try (show AW _ _ _ _ _)
      repeat refine AW.seq ?_
      refine AW.condT (by simp []) (by simp []) ?_
      refine AW.skip ?_
      show AW _ _ _ _ _
      refine AW.seq (AW.block ?_)
      have hx : ∃ x, vs[i]? = some x := ⟨_, List.getElem?_eq_getElem hlt⟩
      obtain ⟨x, hx⟩ := hx
      have he := elem_map (f := Val.av) hx
      rw [← vals_map] at he
      have hpl := pre_len (f := Val.av) hi
      have hpa := pre_add (f := Val.av) hx
      have hxm := List.mem_of_getElem? hx
      have hov := okvs_mem hok hxm
      have hsv := szs_mem hxm
      obtain ⟨k, q, t, is, ks⟩ := x
      simp only [Val.okv, Val.sz] at hov hsv
      have hc := f40 (.mk k q t is ks) (by simp only [Val.okv]; exact hov)
      simp only [Val.av, Val.am] at hc
      simp only [Val.av] at he hpa
      have hby : (i + 1) * 80 ≤ 140737488355328 := by omega
      have hby2 : i + 1 ≤ 9223372036854775807 := by omega
      have hcl := clC_avs is
      have hcs := strs_cl ks
      repeat refine AW.seq ?_
      refine AW.reg ?_
      have hF := And.intro (hlt) (And.intro (he) (And.intro (hne) (And.intro (hne') (hnl))))
      repeat (first | refine wD1 ?_ | refine wD2 ?_ | refine wE1 ?_ | refine wE2 ?_ | (refine wE3 ?_; intro _) | (refine wE4 ?_; intro _) | refine wN ?_ | ((with_reducible show evIs _ (_ :: _) _ _); first | refine wQ ?_ | refine wF ?_ | refine wG ?_ | refine wT ?_ | refine wM ?_ | refine wS ?_ | refine wP ?_ | refine wJ ?_ | refine wX ?_ | refine wY ?_))
      clear hF
      repeat refine evDone ?_
      try (show AW _ _ _ _ _)
      repeat refine AW.seq ?_
      refine AW.reg ?_
      have hF := And.intro (hne) (And.intro (hne') (hnl))
      repeat (first | refine wD1 ?_ | refine wD2 ?_ | refine wE1 ?_ | refine wE2 ?_ | (refine wE3 ?_; intro _) | (refine wE4 ?_; intro _) | refine wN ?_ | ((with_reducible show evIs _ (_ :: _) _ _); first | refine wQ ?_ | refine wF ?_ | refine wG ?_ | refine wT ?_ | refine wM ?_ | refine wS ?_ | refine wP ?_ | refine wJ ?_ | refine wX ?_ | refine wY ?_))
      clear hF
      repeat refine evDone ?_
      try (show AW _ _ _ _ _)
      have hF := And.intro (hne) (And.intro (hne') (And.intro (hnl) (And.intro (hcl) (hcs))))
      refine wC (hA := hc) ?_
      clear hF
      have hF := And.intro (hne) (And.intro (hne') (And.intro (hnl) (And.intro (hpl) (And.intro (hby) (hby2)))))
      repeat (first | refine wD1 ?_ | refine wD2 ?_ | refine wE1 ?_ | refine wE2 ?_ | (refine wE3 ?_; intro _) | (refine wE4 ?_; intro _) | refine wN ?_ | ((with_reducible show evIs _ (_ :: _) _ _); first | refine wQ ?_ | refine wF ?_ | refine wG ?_ | refine wT ?_ | refine wM ?_ | refine wS ?_ | refine wP ?_ | refine wJ ?_ | refine wX ?_ | refine wY ?_))
      clear hF
      repeat refine evDone ?_
      try (show AW _ _ _ _ _)
      refine AW.reg ?_
      have hw : IntKind.i64.wrap ((i : Int) + 1) = (i : Int) + 1 := i64_in _ ⟨by omega, by omega⟩
      have hF := hw
      repeat (first | refine wD1 ?_ | refine wD2 ?_ | refine wE1 ?_ | refine wE2 ?_ | (refine wE3 ?_; intro _) | (refine wE4 ?_; intro _) | refine wN ?_ | ((with_reducible show evIs _ (_ :: _) _ _); first | refine wQ ?_ | refine wF ?_ | refine wG ?_ | refine wT ?_ | refine wM ?_ | refine wS ?_ | refine wP ?_ | refine wJ ?_ | refine wX ?_ | refine wY ?_))
      clear hF
      repeat refine evDone ?_
      try (show AW _ _ _ _ _)
      refine ⟨(i + 1, n + 60, n + 14), ⟨by dsimp only; omega, by dsimp only; omega, by dsimp only; omega, by dsimp only; omega⟩, by dsimp only; omega, ?_⟩
      refine Fit.mk _ _ _ (by simp [hw, hne, hne', hrn, hpl, hpa, conv2, newEmp, convs_refl, convs, conv]) (by simp [hw, hne, hne', hrn, hpl, hpa, heapFit, newEmp, conv2s, conv2, convs_refl, convs, conv]) (by intro q hq; first | (simp at hq; done) | (simp at hq; omega) | (simp at hq; simp; omega))
    · have hlt2 : ¬ (i : Int) < vs.length := by omega
      have hF := And.intro (hlt) (hlt2)
      repeat (first | refine wD1 ?_ | refine wD2 ?_ | refine wE1 ?_ | refine wE2 ?_ | (refine wE3 ?_; intro _) | (refine wE4 ?_; intro _) | refine wN ?_ | ((with_reducible show evIs _ (_ :: _) _ _); first | refine wQ ?_ | refine wF ?_ | refine wG ?_ | refine wT ?_ | refine wM ?_ | refine wS ?_ | refine wP ?_ | refine wJ ?_ | refine wX ?_ | refine wY ?_))
      clear hF
      repeat refine evDone ?_
      try (show AW _ _ _ _ _)
      repeat refine AW.seq ?_
      refine AW.condF (by simp []) (by simp []) ?_
      refine AW.exit ?_
      show AW _ _ _ _ _
      have hii : i = vs.length := by omega
      subst hii
      have ht : (avs vs).take vs.length = avs vs := List.take_of_length_le (by simp)
      have hpf : pre Val.av vs vs.length = avs vs := by rw [pre_full, vals_map]
      repeat refine AW.seq ?_
      refine AW.reg ?_
      have hF := And.intro (hne) (And.intro (hne') (hnl))
      repeat (first | refine wD1 ?_ | refine wD2 ?_ | refine wE1 ?_ | refine wE2 ?_ | (refine wE3 ?_; intro _) | (refine wE4 ?_; intro _) | refine wN ?_ | ((with_reducible show evIs _ (_ :: _) _ _); first | refine wQ ?_ | refine wF ?_ | refine wG ?_ | refine wT ?_ | refine wM ?_ | refine wS ?_ | refine wP ?_ | refine wJ ?_ | refine wX ?_ | refine wY ?_))
      clear hF
      repeat refine evDone ?_
      try (show AW _ _ _ _ _)
      refine AW.ret (retI rfl ?_)
      simp [hpf, ht, a57_res, resOk, resP, resV, ARes.op, R2s, R2, R1s, R1, closeOk, closeV]
theorem f19_step (m : Nat) (ih : ∀ v : Val, v.sz < m → v.okv → ACall Try.prog 19 [v.av, v.av] (· = .bool true)) (v : Val) (hm : v.sz ≤ m) (hok : v.okv) : ACall Try.prog 19 [v.av, v.av] (· = .bool true) := by
  obtain ⟨k, n, t, is, ks⟩ := v
  simp only [Val.av, Val.sz, Val.okv] at hm hok ⊢
  refine a19_of (by simp) ?_
  repeat refine AW.seq ?_
  refine AW.reg ?_
  have hF := True.intro
  repeat (first | refine wD1 ?_ | refine wD2 ?_ | refine wE1 ?_ | refine wE2 ?_ | (refine wE3 ?_; intro _) | (refine wE4 ?_; intro _) | refine wN ?_ | ((with_reducible show evIs _ (_ :: _) _ _); first | refine wQ ?_ | refine wF ?_ | refine wG ?_ | refine wT ?_ | refine wM ?_ | refine wS ?_ | refine wP ?_ | refine wJ ?_ | refine wX ?_ | refine wY ?_))
  clear hF
  repeat refine evDone ?_
  try (show AW _ _ _ _ _)
  repeat refine AW.seq ?_
  refine AW.reg ?_
  have hF := True.intro
  repeat (first | refine wD1 ?_ | refine wD2 ?_ | refine wE1 ?_ | refine wE2 ?_ | (refine wE3 ?_; intro _) | (refine wE4 ?_; intro _) | refine wN ?_ | ((with_reducible show evIs _ (_ :: _) _ _); first | refine wQ ?_ | refine wF ?_ | refine wG ?_ | refine wT ?_ | refine wM ?_ | refine wS ?_ | refine wP ?_ | refine wJ ?_ | refine wX ?_ | refine wY ?_))
  clear hF
  repeat refine evDone ?_
  try (show AW _ _ _ _ _)
  repeat refine AW.seq ?_
  refine AW.condF (by simp []) (by simp []) ?_
  refine AW.skip ?_
  show AW _ _ _ _ _
  repeat refine AW.seq ?_
  refine AW.reg ?_
  have hF := True.intro
  repeat (first | refine wD1 ?_ | refine wD2 ?_ | refine wE1 ?_ | refine wE2 ?_ | (refine wE3 ?_; intro _) | (refine wE4 ?_; intro _) | refine wN ?_ | ((with_reducible show evIs _ (_ :: _) _ _); first | refine wQ ?_ | refine wF ?_ | refine wG ?_ | refine wT ?_ | refine wM ?_ | refine wS ?_ | refine wP ?_ | refine wJ ?_ | refine wX ?_ | refine wY ?_))
  clear hF
  repeat refine evDone ?_
  try (show AW _ _ _ _ _)
  repeat refine AW.seq ?_
  refine AW.block ?_
  refine AW.loop (fun i : Nat => i ≤ ks.length) (fun i => mkS [(2, .ptr 0 0 0), (3, .ptr 1 0 0), (5, .int .i64 i)] [(0, ⟨5, true, [.agg [.int .i64 k, .int .i64 n, .str t, .sl .fro (avs is), .sl .fro (ks.map .str)]]⟩), (1, ⟨5, true, [.agg [.int .i64 k, .int .i64 n, .str t, .sl .fro (avs is), .sl .fro (ks.map .str)]]⟩)] 30) (fun i => ks.length - i) 0 (by simp) ?_ ?_
  · refine Fit.mk _ _ _ (by simp [conv2, newEmp, convs_refl, convs, conv]) (by simp [heapFit, newEmp, conv2s, conv2, convs_refl, convs, conv]) (by intro q hq; first | (simp at hq; done) | (simp at hq; omega) | (simp at hq; simp; omega))
  · intro i hi

    repeat refine AW.seq ?_
    refine AW.reg ?_
    by_cases hlt : i < ks.length
    · have hF := hlt
      repeat (first | refine wD1 ?_ | refine wD2 ?_ | refine wE1 ?_ | refine wE2 ?_ | (refine wE3 ?_; intro _) | (refine wE4 ?_; intro _) | refine wN ?_ | ((with_reducible show evIs _ (_ :: _) _ _); first | refine wQ ?_ | refine wF ?_ | refine wG ?_ | refine wT ?_ | refine wM ?_ | refine wS ?_ | refine wP ?_ | refine wJ ?_ | refine wX ?_ | refine wY ?_))
      clear hF
      repeat refine evDone ?_
      try (show AW _ _ _ _ _)
      repeat refine AW.seq ?_
      refine AW.condT (by simp []) (by simp []) ?_
      refine AW.skip ?_
      show AW _ _ _ _ _
      refine AW.seq (AW.block ?_)
      have hx : ∃ x, ks[i]? = some x := ⟨_, List.getElem?_eq_getElem hlt⟩
      obtain ⟨x, hx⟩ := hx
      have he := elem_map (f := AV.str) hx
      repeat refine AW.seq ?_
      refine AW.draw ?_
      have hF := And.intro (hlt) (he)
      repeat (first | refine wD1 ?_ | refine wD2 ?_ | refine wE1 ?_ | refine wE2 ?_ | (refine wE3 ?_; intro _) | (refine wE4 ?_; intro _) | refine wN ?_ | ((with_reducible show evIs _ (_ :: _) _ _); first | refine wQ ?_ | refine wF ?_ | refine wG ?_ | refine wT ?_ | refine wM ?_ | refine wS ?_ | refine wP ?_ | refine wJ ?_ | refine wX ?_ | refine wY ?_))
      clear hF
      repeat refine evDone ?_
      try (show AW _ _ _ _ _)
      repeat refine AW.seq ?_
      refine AW.condF (by simp []) (by simp []) ?_
      refine AW.skip ?_
      show AW _ _ _ _ _
      refine AW.reg ?_
      have hw : IntKind.i64.wrap ((i : Int) + 1) = (i : Int) + 1 := i64_in _ ⟨by omega, by omega⟩
      have hF := hw
      repeat (first | refine wD1 ?_ | refine wD2 ?_ | refine wE1 ?_ | refine wE2 ?_ | (refine wE3 ?_; intro _) | (refine wE4 ?_; intro _) | refine wN ?_ | ((with_reducible show evIs _ (_ :: _) _ _); first | refine wQ ?_ | refine wF ?_ | refine wG ?_ | refine wT ?_ | refine wM ?_ | refine wS ?_ | refine wP ?_ | refine wJ ?_ | refine wX ?_ | refine wY ?_))
      clear hF
      repeat refine evDone ?_
      try (show AW _ _ _ _ _)
      refine ⟨i + 1, by omega, by omega, ?_⟩
      refine Fit.mk _ _ _ (by simp [hw, conv2, newEmp, convs_refl, convs, conv]) (by simp [hw, heapFit, newEmp, conv2s, conv2, convs_refl, convs, conv]) (by intro q hq; first | (simp at hq; done) | (simp at hq; omega) | (simp at hq; simp; omega))
    · have hlt2 : ¬ (i : Int) < ks.length := by omega
      have hF := And.intro (hlt) (hlt2)
      repeat (first | refine wD1 ?_ | refine wD2 ?_ | refine wE1 ?_ | refine wE2 ?_ | (refine wE3 ?_; intro _) | (refine wE4 ?_; intro _) | refine wN ?_ | ((with_reducible show evIs _ (_ :: _) _ _); first | refine wQ ?_ | refine wF ?_ | refine wG ?_ | refine wT ?_ | refine wM ?_ | refine wS ?_ | refine wP ?_ | refine wJ ?_ | refine wX ?_ | refine wY ?_))
      clear hF
      repeat refine evDone ?_
      try (show AW _ _ _ _ _)
      repeat refine AW.seq ?_
      refine AW.condF (by simp []) (by simp []) ?_
      refine AW.exit ?_
      show AW _ _ _ _ _
      repeat refine AW.seq ?_
      refine AW.reg ?_
      have hF := True.intro
      repeat (first | refine wD1 ?_ | refine wD2 ?_ | refine wE1 ?_ | refine wE2 ?_ | (refine wE3 ?_; intro _) | (refine wE4 ?_; intro _) | refine wN ?_ | ((with_reducible show evIs _ (_ :: _) _ _); first | refine wQ ?_ | refine wF ?_ | refine wG ?_ | refine wT ?_ | refine wM ?_ | refine wS ?_ | refine wP ?_ | refine wJ ?_ | refine wX ?_ | refine wY ?_))
      clear hF
      repeat refine evDone ?_
      try (show AW _ _ _ _ _)
      repeat refine AW.seq ?_
      refine AW.block ?_
      refine AW.loop (fun i : Nat => i ≤ is.length) (fun i => mkS [(2, .ptr 0 0 0), (3, .ptr 1 0 0), (6, .int .i64 i)] [(0, ⟨5, true, [.agg [.int .i64 k, .int .i64 n, .str t, .sl .fro (avs is), .sl .fro (ks.map .str)]]⟩), (1, ⟨5, true, [.agg [.int .i64 k, .int .i64 n, .str t, .sl .fro (avs is), .sl .fro (ks.map .str)]]⟩)] 60) (fun i => is.length - i) 0 (by simp) ?_ ?_
      · refine Fit.mk _ _ _ (by simp [conv2, newEmp, convs_refl, convs, conv]) (by simp [heapFit, newEmp, conv2s, conv2, convs_refl, convs, conv]) (by intro q hq; first | (simp at hq; done) | (simp at hq; omega) | (simp at hq; simp; omega))
      · intro i hi

        repeat refine AW.seq ?_
        refine AW.reg ?_
        by_cases hlt : i < is.length
        · have hF := hlt
          repeat (first | refine wD1 ?_ | refine wD2 ?_ | refine wE1 ?_ | refine wE2 ?_ | (refine wE3 ?_; intro _) | (refine wE4 ?_; intro _) | refine wN ?_ | ((with_reducible show evIs _ (_ :: _) _ _); first | refine wQ ?_ | refine wF ?_ | refine wG ?_ | refine wT ?_ | refine wM ?_ | refine wS ?_ | refine wP ?_ | refine wJ ?_ | refine wX ?_ | refine wY ?_))
          clear hF
          repeat refine evDone ?_
          try (show AW _ _ _ _ _)
          repeat refine AW.seq ?_
          refine AW.condT (by simp []) (by simp []) ?_
          refine AW.skip ?_
          show AW _ _ _ _ _
          refine AW.seq (AW.block ?_)
          have hx : ∃ x, is[i]? = some x := ⟨_, List.getElem?_eq_getElem hlt⟩
          obtain ⟨x, hx⟩ := hx
          have he := elem_map (f := Val.av) hx
          rw [← vals_map] at he
          have hxm := List.mem_of_getElem? hx
          have hxo := okvs_mem hok.2.2 hxm
          have hxs := szs_mem hxm
          have hxc := ih x (by omega) hxo
          obtain ⟨k', n', t', is', ks'⟩ := x
          simp only [Val.av] at he hxc
          repeat refine AW.seq ?_
          refine AW.draw ?_
          have hF := And.intro (hlt) (he)
          repeat (first | refine wD1 ?_ | refine wD2 ?_ | refine wE1 ?_ | refine wE2 ?_ | (refine wE3 ?_; intro _) | (refine wE4 ?_; intro _) | refine wN ?_ | ((with_reducible show evIs _ (_ :: _) _ _); first | refine wQ ?_ | refine wF ?_ | refine wG ?_ | refine wT ?_ | refine wM ?_ | refine wS ?_ | refine wP ?_ | refine wJ ?_ | refine wX ?_ | refine wY ?_))
          clear hF
          repeat refine evDone ?_
          try (show AW _ _ _ _ _)
          have hF := True.intro
          refine wC (hA := hxc) ?_
          clear hF
          have hF := And.intro (hlt) (he)
          repeat (first | refine wD1 ?_ | refine wD2 ?_ | refine wE1 ?_ | refine wE2 ?_ | (refine wE3 ?_; intro _) | (refine wE4 ?_; intro _) | refine wN ?_ | ((with_reducible show evIs _ (_ :: _) _ _); first | refine wQ ?_ | refine wF ?_ | refine wG ?_ | refine wT ?_ | refine wM ?_ | refine wS ?_ | refine wP ?_ | refine wJ ?_ | refine wX ?_ | refine wY ?_))
          clear hF
          repeat refine evDone ?_
          try (show AW _ _ _ _ _)
          repeat refine AW.seq ?_
          refine AW.condF (by simp []) (by simp []) ?_
          refine AW.skip ?_
          show AW _ _ _ _ _
          refine AW.reg ?_
          have hw : IntKind.i64.wrap ((i : Int) + 1) = (i : Int) + 1 := i64_in _ ⟨by omega, by omega⟩
          have hF := hw
          repeat (first | refine wD1 ?_ | refine wD2 ?_ | refine wE1 ?_ | refine wE2 ?_ | (refine wE3 ?_; intro _) | (refine wE4 ?_; intro _) | refine wN ?_ | ((with_reducible show evIs _ (_ :: _) _ _); first | refine wQ ?_ | refine wF ?_ | refine wG ?_ | refine wT ?_ | refine wM ?_ | refine wS ?_ | refine wP ?_ | refine wJ ?_ | refine wX ?_ | refine wY ?_))
          clear hF
          repeat refine evDone ?_
          try (show AW _ _ _ _ _)
          refine ⟨i + 1, by omega, by omega, ?_⟩
          refine Fit.mk _ _ _ (by simp [hw, conv2, newEmp, convs_refl, convs, conv]) (by simp [hw, heapFit, newEmp, conv2s, conv2, convs_refl, convs, conv]) (by intro q hq; first | (simp at hq; done) | (simp at hq; omega) | (simp at hq; simp; omega))
        · have hlt2 : ¬ (i : Int) < is.length := by omega
          have hF := And.intro (hlt) (hlt2)
          repeat (first | refine wD1 ?_ | refine wD2 ?_ | refine wE1 ?_ | refine wE2 ?_ | (refine wE3 ?_; intro _) | (refine wE4 ?_; intro _) | refine wN ?_ | ((with_reducible show evIs _ (_ :: _) _ _); first | refine wQ ?_ | refine wF ?_ | refine wG ?_ | refine wT ?_ | refine wM ?_ | refine wS ?_ | refine wP ?_ | refine wJ ?_ | refine wX ?_ | refine wY ?_))
          clear hF
          repeat refine evDone ?_
          try (show AW _ _ _ _ _)
          repeat refine AW.seq ?_
          refine AW.condF (by simp []) (by simp []) ?_
          refine AW.exit ?_
          show AW _ _ _ _ _
          repeat refine AW.seq ?_
          refine AW.reg ?_
          have hF := True.intro
          repeat (first | refine wD1 ?_ | refine wD2 ?_ | refine wE1 ?_ | refine wE2 ?_ | (refine wE3 ?_; intro _) | (refine wE4 ?_; intro _) | refine wN ?_ | ((with_reducible show evIs _ (_ :: _) _ _); first | refine wQ ?_ | refine wF ?_ | refine wG ?_ | refine wT ?_ | refine wM ?_ | refine wS ?_ | refine wP ?_ | refine wJ ?_ | refine wX ?_ | refine wY ?_))
          clear hF
          repeat refine evDone ?_
          try (show AW _ _ _ _ _)
          refine AW.ret (retI rfl ?_)
          simp [a19_res, resOk, resP, resV, ARes.op, R2s, R2, R1s, R1, closeOk, closeV]
theorem f19 (v : Val) (hok : v.okv) : ACall Try.prog 19 [v.av, v.av] (· = .bool true) := by
  have key : ∀ (m : Nat) (v : Val), v.sz ≤ m → v.okv → ACall Try.prog 19 [v.av, v.av] (· = .bool true) := by
    intro m
    induction m using Nat.strongRecOn with
    | _ m ih => exact fun v hm hok => f19_step m (fun v' h ho => ih v'.sz h v' (Nat.le_refl _) ho) v hm hok
  exact key _ v (Nat.le_refl _) hok
theorem f42 (vs : List Val) (hok : okvs vs) (hb : vs.length * 80 ≤ 140737488355328) : ACall Try.prog 42 [.sl .fro (avs vs), .sl .fro (avs vs)] (· = .bool true) := by
  have h19 := f19 (.mk 0 0 ⟨#[]⟩ vs []) ⟨hb, by simp, hok⟩
  simp only [Val.av, List.map_nil] at h19
  refine a42_of (by simp) ?_
  repeat refine AW.seq ?_
  refine AW.reg ?_
  have hF := True.intro
  repeat (first | refine wD1 ?_ | refine wD2 ?_ | refine wE1 ?_ | refine wE2 ?_ | (refine wE3 ?_; intro _) | (refine wE4 ?_; intro _) | refine wN ?_ | ((with_reducible show evIs _ (_ :: _) _ _); first | refine wQ ?_ | refine wF ?_ | refine wG ?_ | refine wT ?_ | refine wM ?_ | refine wS ?_ | refine wP ?_ | refine wJ ?_ | refine wX ?_ | refine wY ?_))
  clear hF
  repeat refine evDone ?_
  try (show AW _ _ _ _ _)
  repeat refine AW.seq ?_
  refine AW.reg ?_
  have hF := True.intro
  repeat (first | refine wD1 ?_ | refine wD2 ?_ | refine wE1 ?_ | refine wE2 ?_ | (refine wE3 ?_; intro _) | (refine wE4 ?_; intro _) | refine wN ?_ | ((with_reducible show evIs _ (_ :: _) _ _); first | refine wQ ?_ | refine wF ?_ | refine wG ?_ | refine wT ?_ | refine wM ?_ | refine wS ?_ | refine wP ?_ | refine wJ ?_ | refine wX ?_ | refine wY ?_))
  clear hF
  repeat refine evDone ?_
  try (show AW _ _ _ _ _)
  have hF := True.intro
  refine wC (hA := h19) ?_
  clear hF
  have hF := True.intro
  repeat (first | refine wD1 ?_ | refine wD2 ?_ | refine wE1 ?_ | refine wE2 ?_ | (refine wE3 ?_; intro _) | (refine wE4 ?_; intro _) | refine wN ?_ | ((with_reducible show evIs _ (_ :: _) _ _); first | refine wQ ?_ | refine wF ?_ | refine wG ?_ | refine wT ?_ | refine wM ?_ | refine wS ?_ | refine wP ?_ | refine wJ ?_ | refine wX ?_ | refine wY ?_))
  clear hF
  repeat refine evDone ?_
  try (show AW _ _ _ _ _)
  refine AW.ret (retI rfl ?_)
  simp [a42_res, resOk, resP, resV, ARes.op, R2s, R2, R1s, R1, closeOk, closeV]
end Go.Proofs.Ytafkaofaioleiaa

set_option linter.unusedSimpArgs false
set_option linter.unusedVariables false
set_option maxHeartbeats 4000000
namespace Go.Proofs.Ytafkaofaioleiaa
open Go Go.Amb Go.IntWalk

structure Undo where
  fn : Int
  args : List Val
def Undo.av (u : Undo) : AV := .agg [.int .i64 u.fn, .sl .fro (avs u.args)]
def Undo.ok (u : Undo) : Prop := okvs u.args ∧ u.args.length * 80 ≤ 140737488355328
structure Mark where
  kind : Int
  target : Int
  slot : Int
  height : Int
  undos : List Undo
  tk : Int
  tn : Int
  tt : ByteArray
  ti : List Val
  ts : List ByteArray
def Mark.av (m : Mark) : AV := .agg [.int .i64 m.kind, .int .i64 m.target, .int .i64 m.slot, .int .i64 m.height, .sl .fro (m.undos.map Undo.av), .int .i64 m.tk, .int .i64 m.tn, .str m.tt, .sl .fro (avs m.ti), .sl .fro (m.ts.map .str)]
def Mark.am (m : Mark) : AV := .agg [.int .i64 m.kind, .int .i64 m.target, .int .i64 m.slot, .int .i64 m.height, .sl (.own 2) (m.undos.map Undo.av), .int .i64 m.tk, .int .i64 m.tn, .str m.tt, .sl .fro (avs m.ti), .sl .fro (m.ts.map .str)]
def Mark.ok (m : Mark) : Prop := m.undos.length * 32 ≤ 140737488355328 ∧ (∀ u ∈ m.undos, u.ok) ∧ (Val.mk m.tk m.tn m.tt m.ti m.ts).okv
structure Frame where
  fn : Int
  pc : Int
  slots : List Val
  stack : List Val
  marks : List Mark
def Frame.av (f : Frame) : AV := .agg [.int .i64 f.fn, .int .i64 f.pc, .sl .fro (avs f.slots), .sl .fro (avs f.stack), .sl .fro (f.marks.map Mark.av)]
/-- A copy: its slots and marks are its own. -/
def Frame.ao (f : Frame) : AV := .agg [.int .i64 f.fn, .int .i64 f.pc, .sl (.own 5) (avs f.slots), .sl .fro (avs f.stack), .sl (.own 10) (f.marks.map Mark.av)]
def Frame.ok (f : Frame) : Prop := okvs f.slots ∧ f.slots.length * 80 ≤ 140737488355328 ∧ okvs f.stack ∧ f.stack.length * 80 ≤ 140737488355328 ∧ f.marks.length * 136 ≤ 140737488355328 ∧ ∀ m ∈ f.marks, m.ok
@[simp] theorem undo_len (u : Undo) : (cellsOf u.av).length = 2 := by simp [Undo.av]
@[simp] theorem clC_undo (u : Undo) : clC u.av = u.av := by simp [Undo.av]
theorem undos_cl (us : List Undo) : (us.map Undo.av).map clC = us.map Undo.av := by simp [Function.comp_def]
@[simp] theorem mark_len (m : Mark) : (cellsOf m.av).length = 10 := by simp [Mark.av]
@[simp] theorem clC_mark (m : Mark) : clC m.av = m.av := by simp [Mark.av]
theorem marks_cl (ms : List Mark) : (ms.map Mark.av).map clC = ms.map Mark.av := by simp [Function.comp_def]
@[simp] theorem frame_len (f : Frame) : (cellsOf f.av).length = 5 := by simp [Frame.av]
@[simp] theorem frameo_len (f : Frame) : (cellsOf f.ao).length = 5 := by simp [Frame.ao]
@[simp] theorem clC_frame (f : Frame) : clC f.av = f.av := by simp [Frame.av]
@[simp] theorem clC_frameo (f : Frame) : clC f.ao = f.av := by simp [Frame.ao, Frame.av, Function.comp_def, vals_map]
theorem f49 (u : Undo) (hok : u.ok) : ACall Try.prog 49 [u.av] (· = u.av) := by
  obtain ⟨fn, args⟩ := u
  have h56 := f56 args hok.1 hok.2
  simp only [Undo.av]
  refine a49_of (by simp) ?_
  repeat refine AW.seq ?_
  refine AW.reg ?_
  have hF := True.intro
  repeat (first | refine wD1 ?_ | refine wD2 ?_ | refine wE1 ?_ | refine wE2 ?_ | (refine wE3 ?_; intro _) | (refine wE4 ?_; intro _) | refine wN ?_ | ((with_reducible show evIs _ (_ :: _) _ _); first | refine wQ ?_ | refine wF ?_ | refine wG ?_ | refine wT ?_ | refine wM ?_ | refine wS ?_ | refine wP ?_ | refine wJ ?_ | refine wX ?_ | refine wY ?_))
  clear hF
  repeat refine evDone ?_
  try (show AW _ _ _ _ _)
  repeat refine AW.seq ?_
  refine AW.draw ?_
  have hF := True.intro
  repeat (first | refine wD1 ?_ | refine wD2 ?_ | refine wE1 ?_ | refine wE2 ?_ | (refine wE3 ?_; intro _) | (refine wE4 ?_; intro _) | refine wN ?_ | ((with_reducible show evIs _ (_ :: _) _ _); first | refine wQ ?_ | refine wF ?_ | refine wG ?_ | refine wT ?_ | refine wM ?_ | refine wS ?_ | refine wP ?_ | refine wJ ?_ | refine wX ?_ | refine wY ?_))
  clear hF
  repeat refine evDone ?_
  try (show AW _ _ _ _ _)
  have hF := True.intro
  refine wC (hA := h56) ?_
  clear hF
  have hF := True.intro
  repeat (first | refine wD1 ?_ | refine wD2 ?_ | refine wE1 ?_ | refine wE2 ?_ | (refine wE3 ?_; intro _) | (refine wE4 ?_; intro _) | refine wN ?_ | ((with_reducible show evIs _ (_ :: _) _ _); first | refine wQ ?_ | refine wF ?_ | refine wG ?_ | refine wT ?_ | refine wM ?_ | refine wS ?_ | refine wP ?_ | refine wJ ?_ | refine wX ?_ | refine wY ?_))
  clear hF
  repeat refine evDone ?_
  try (show AW _ _ _ _ _)
  refine AW.ret (retI rfl ?_)
  simp [a49_res, resOk, resP, resV, ARes.op, R2s, R2, R1s, R1, closeOk, closeV]
theorem f50 (u : Undo) (hok : u.ok) : ACall Try.prog 50 [u.av] (· = u.av) := by
  obtain ⟨fn, args⟩ := u
  have h57 := f57 args hok.1 hok.2
  have hc := clC_avs args
  simp only [Undo.av]
  refine a50_of (by simp) ?_
  repeat refine AW.seq ?_
  refine AW.reg ?_
  have hF := True.intro
  repeat (first | refine wD1 ?_ | refine wD2 ?_ | refine wE1 ?_ | refine wE2 ?_ | (refine wE3 ?_; intro _) | (refine wE4 ?_; intro _) | refine wN ?_ | ((with_reducible show evIs _ (_ :: _) _ _); first | refine wQ ?_ | refine wF ?_ | refine wG ?_ | refine wT ?_ | refine wM ?_ | refine wS ?_ | refine wP ?_ | refine wJ ?_ | refine wX ?_ | refine wY ?_))
  clear hF
  repeat refine evDone ?_
  try (show AW _ _ _ _ _)
  repeat refine AW.seq ?_
  refine AW.draw ?_
  have hF := True.intro
  repeat (first | refine wD1 ?_ | refine wD2 ?_ | refine wE1 ?_ | refine wE2 ?_ | (refine wE3 ?_; intro _) | (refine wE4 ?_; intro _) | refine wN ?_ | ((with_reducible show evIs _ (_ :: _) _ _); first | refine wQ ?_ | refine wF ?_ | refine wG ?_ | refine wT ?_ | refine wM ?_ | refine wS ?_ | refine wP ?_ | refine wJ ?_ | refine wX ?_ | refine wY ?_))
  clear hF
  repeat refine evDone ?_
  try (show AW _ _ _ _ _)
  have hF := hc
  refine wC (hA := h57) ?_
  clear hF
  have hF := True.intro
  repeat (first | refine wD1 ?_ | refine wD2 ?_ | refine wE1 ?_ | refine wE2 ?_ | (refine wE3 ?_; intro _) | (refine wE4 ?_; intro _) | refine wN ?_ | ((with_reducible show evIs _ (_ :: _) _ _); first | refine wQ ?_ | refine wF ?_ | refine wG ?_ | refine wT ?_ | refine wM ?_ | refine wS ?_ | refine wP ?_ | refine wJ ?_ | refine wX ?_ | refine wY ?_))
  clear hF
  repeat refine evDone ?_
  try (show AW _ _ _ _ _)
  refine AW.ret (retI rfl ?_)
  simp [a50_res, resOk, resP, resV, ARes.op, R2s, R2, R1s, R1, closeOk, closeV]
theorem f58 (m : Mark) (hok : m.ok) : ACall Try.prog 58 [m.av] (· = m.am) := by
  obtain ⟨kind, target, slot, height, us, tk, tn, tt, ti, ts⟩ := m
  obtain ⟨hb, hus, hv⟩ := hok
  dsimp only at hb hus hv
  have h40 := f40 _ hv
  simp only [Val.av, Val.am] at h40
  have hcl5 := clC_avs ti
  have hcs5 := strs_cl ts
  simp only [Mark.av, Mark.am]
  refine a58_of (by simp) ?_
  repeat refine AW.seq ?_
  refine AW.reg ?_
  have hF := True.intro
  repeat (first | refine wD1 ?_ | refine wD2 ?_ | refine wE1 ?_ | refine wE2 ?_ | (refine wE3 ?_; intro _) | (refine wE4 ?_; intro _) | refine wN ?_ | ((with_reducible show evIs _ (_ :: _) _ _); first | refine wQ ?_ | refine wF ?_ | refine wG ?_ | refine wT ?_ | refine wM ?_ | refine wS ?_ | refine wP ?_ | refine wJ ?_ | refine wX ?_ | refine wY ?_))
  clear hF
  repeat refine evDone ?_
  try (show AW _ _ _ _ _)
  repeat refine AW.seq ?_
  refine AW.reg ?_
  have hF := True.intro
  repeat (first | refine wD1 ?_ | refine wD2 ?_ | refine wE1 ?_ | refine wE2 ?_ | (refine wE3 ?_; intro _) | (refine wE4 ?_; intro _) | refine wN ?_ | ((with_reducible show evIs _ (_ :: _) _ _); first | refine wQ ?_ | refine wF ?_ | refine wG ?_ | refine wT ?_ | refine wM ?_ | refine wS ?_ | refine wP ?_ | refine wJ ?_ | refine wX ?_ | refine wY ?_))
  clear hF
  repeat refine evDone ?_
  try (show AW _ _ _ _ _)
  repeat refine AW.seq ?_
  refine AW.reg ?_
  have hF := True.intro
  repeat (first | refine wD1 ?_ | refine wD2 ?_ | refine wE1 ?_ | refine wE2 ?_ | (refine wE3 ?_; intro _) | (refine wE4 ?_; intro _) | refine wN ?_ | ((with_reducible show evIs _ (_ :: _) _ _); first | refine wQ ?_ | refine wF ?_ | refine wG ?_ | refine wT ?_ | refine wM ?_ | refine wS ?_ | refine wP ?_ | refine wJ ?_ | refine wX ?_ | refine wY ?_))
  clear hF
  repeat refine evDone ?_
  try (show AW _ _ _ _ _)
  repeat refine AW.seq ?_
  refine AW.reg ?_
  have hF := True.intro
  repeat (first | refine wD1 ?_ | refine wD2 ?_ | refine wE1 ?_ | refine wE2 ?_ | (refine wE3 ?_; intro _) | (refine wE4 ?_; intro _) | refine wN ?_ | ((with_reducible show evIs _ (_ :: _) _ _); first | refine wQ ?_ | refine wF ?_ | refine wG ?_ | refine wT ?_ | refine wM ?_ | refine wS ?_ | refine wP ?_ | refine wJ ?_ | refine wX ?_ | refine wY ?_))
  clear hF
  repeat refine evDone ?_
  try (show AW _ _ _ _ _)
  repeat refine AW.seq ?_
  refine AW.block ?_
  refine AW.loop (fun g : Nat × Nat × Nat => g.1 ≤ us.length ∧ g.2.2 < g.2.1 ∧ 10 ≤ g.2.2 ∧ 10 ≤ g.2.1) (fun g => mkS [(1, .ptr 0 0 0), (2, .ptr 1 0 0), (3, .ptr 3 0 0), (9, .sl .fro (us.map Undo.av)), (10, .int .i64 us.length), (11, .int .i64 g.1)] [(0, ⟨10, true, [.agg [.int .i64 kind, .int .i64 target, .int .i64 slot, .int .i64 height, .sl .fro (us.map Undo.av), .int .i64 tk, .int .i64 tn, .str tt, .sl .fro (avs ti), .sl .fro (ts.map .str)]]⟩), (1, ⟨10, true, [.agg [.int .i64 0, .int .i64 0, .int .i64 0, .int .i64 0, .sl .ext [], .int .i64 0, .int .i64 0, .str ⟨#[]⟩, .sl .ext [], .sl .ext []]]⟩), (3, ⟨10, true, [.agg [.int .i64 kind, .int .i64 target, .int .i64 slot, .int .i64 height, .hdr g.2.2 0 g.1, .int .i64 tk, .int .i64 tn, .str tt, .sl .fro (avs ti), .sl .fro (ts.map .str)]]⟩), (g.2.2, ⟨2, false, pre Undo.av us g.1⟩)] g.2.1) (fun g => us.length - g.1) (0, 30, 20) ⟨by simp, by simp, by simp, by simp⟩ ?_ ?_
  · refine Fit.mk _ _ _ (by simp [pre_zero, conv2, newEmp, convs_refl, convs, conv]) (by simp [pre_zero, heapFit, newEmp, conv2s, conv2, convs_refl, convs, conv]) (by intro q hq; first | (simp at hq; done) | (simp at hq; omega) | (simp at hq; simp; omega))
  · rintro ⟨i, n, r⟩ ⟨hi, hr, hbr, hbn⟩
    dsimp only at hi hr hbr hbn ⊢
    have hne : ∀ k, (r = n + k) = False := fun k => eq_false (by omega)
    have hne' : ∀ k, (n + k = r) = False := fun k => eq_false (by omega)
    have hnl : ∀ k, (n + k < n) = False := fun k => eq_false (by omega)
    have hrn : ∀ k, r < n + k := fun k => by omega
    have hl0 : (r = 0) = False := eq_false (by omega)
    have hm0 : (0 = r) = False := eq_false (by omega)
    have hb0 : ∀ k, 0 < n + k := fun k => by omega
    have hc0 : 0 < n := by omega
    have hl1 : (r = 1) = False := eq_false (by omega)
    have hm1 : (1 = r) = False := eq_false (by omega)
    have hb1 : ∀ k, 1 < n + k := fun k => by omega
    have hc1 : 1 < n := by omega
    have hl3 : (r = 3) = False := eq_false (by omega)
    have hm3 : (3 = r) = False := eq_false (by omega)
    have hb3 : ∀ k, 3 < n + k := fun k => by omega
    have hc3 : 3 < n := by omega

    repeat refine AW.seq ?_
    refine AW.reg ?_
    by_cases hlt : i < us.length
    · have hF := hlt
      repeat (first | refine wD1 ?_ | refine wD2 ?_ | refine wE1 ?_ | refine wE2 ?_ | (refine wE3 ?_; intro _) | (refine wE4 ?_; intro _) | refine wN ?_ | ((with_reducible show evIs _ (_ :: _) _ _); first | refine wQ ?_ | refine wF ?_ | refine wG ?_ | refine wT ?_ | refine wM ?_ | refine wS ?_ | refine wP ?_ | refine wJ ?_ | refine wX ?_ | refine wY ?_))
      clear hF
      repeat refine evDone ?_
      try (show AW _ _ _ _ _)
      repeat refine AW.seq ?_
      refine AW.condT (by simp []) (by simp []) ?_
      refine AW.skip ?_
      show AW _ _ _ _ _
      refine AW.seq (AW.block ?_)
      have hx : ∃ x, us[i]? = some x := ⟨_, List.getElem?_eq_getElem hlt⟩
      obtain ⟨x, hx⟩ := hx
      have he := elem_map (f := Undo.av) hx
      have hpl := pre_len (f := Undo.av) hi
      have hpa := pre_add (f := Undo.av) hx
      have hc := f50 x (hus x (List.mem_of_getElem? hx))
      obtain ⟨fn, args⟩ := x
      simp only [Undo.av] at he hpa hc
      have hby : (i + 1) * 32 ≤ 140737488355328 := by omega
      have hby2 : i + 1 ≤ 9223372036854775807 := by omega
      repeat refine AW.seq ?_
      refine AW.reg ?_
      have hF := And.intro (hlt) (And.intro (he) (And.intro (hne) (And.intro (hne') (And.intro (hnl) (And.intro (hl0) (And.intro (hl1) (And.intro (hl3) (And.intro (hm0) (And.intro (hm1) (hm3))))))))))
      repeat (first | refine wD1 ?_ | refine wD2 ?_ | refine wE1 ?_ | refine wE2 ?_ | (refine wE3 ?_; intro _) | (refine wE4 ?_; intro _) | refine wN ?_ | ((with_reducible show evIs _ (_ :: _) _ _); first | refine wQ ?_ | refine wF ?_ | refine wG ?_ | refine wT ?_ | refine wM ?_ | refine wS ?_ | refine wP ?_ | refine wJ ?_ | refine wX ?_ | refine wY ?_))
      clear hF
      repeat refine evDone ?_
      try (show AW _ _ _ _ _)
      repeat refine AW.seq ?_
      refine AW.draw ?_
      have hF := And.intro (hlt) (And.intro (he) (And.intro (hne) (And.intro (hne') (And.intro (hnl) (And.intro (hl0) (And.intro (hl1) (And.intro (hl3) (And.intro (hm0) (And.intro (hm1) (hm3))))))))))
      repeat (first | refine wD1 ?_ | refine wD2 ?_ | refine wE1 ?_ | refine wE2 ?_ | (refine wE3 ?_; intro _) | (refine wE4 ?_; intro _) | refine wN ?_ | ((with_reducible show evIs _ (_ :: _) _ _); first | refine wQ ?_ | refine wF ?_ | refine wG ?_ | refine wT ?_ | refine wM ?_ | refine wS ?_ | refine wP ?_ | refine wJ ?_ | refine wX ?_ | refine wY ?_))
      clear hF
      repeat refine evDone ?_
      try (show AW _ _ _ _ _)
      have hF := And.intro (hne) (And.intro (hne') (hnl))
      refine wC (hA := hc) ?_
      clear hF
      have hF := And.intro (hne) (And.intro (hne') (And.intro (hnl) (And.intro (hpl) (And.intro (hby) (And.intro (hby2) (And.intro (hl0) (And.intro (hl1) (And.intro (hl3) (And.intro (hm0) (And.intro (hm1) (hm3)))))))))))
      repeat (first | refine wD1 ?_ | refine wD2 ?_ | refine wE1 ?_ | refine wE2 ?_ | (refine wE3 ?_; intro _) | (refine wE4 ?_; intro _) | refine wN ?_ | ((with_reducible show evIs _ (_ :: _) _ _); first | refine wQ ?_ | refine wF ?_ | refine wG ?_ | refine wT ?_ | refine wM ?_ | refine wS ?_ | refine wP ?_ | refine wJ ?_ | refine wX ?_ | refine wY ?_))
      clear hF
      repeat refine evDone ?_
      try (show AW _ _ _ _ _)
      refine AW.reg ?_
      have hw : IntKind.i64.wrap ((i : Int) + 1) = (i : Int) + 1 := i64_in _ ⟨by omega, by omega⟩
      have hF := hw
      repeat (first | refine wD1 ?_ | refine wD2 ?_ | refine wE1 ?_ | refine wE2 ?_ | (refine wE3 ?_; intro _) | (refine wE4 ?_; intro _) | refine wN ?_ | ((with_reducible show evIs _ (_ :: _) _ _); first | refine wQ ?_ | refine wF ?_ | refine wG ?_ | refine wT ?_ | refine wM ?_ | refine wS ?_ | refine wP ?_ | refine wJ ?_ | refine wX ?_ | refine wY ?_))
      clear hF
      repeat refine evDone ?_
      try (show AW _ _ _ _ _)
      refine ⟨(i + 1, n + 60, n + 21), ⟨by dsimp only; omega, by dsimp only; omega, by dsimp only; omega, by dsimp only; omega⟩, by dsimp only; omega, ?_⟩
      refine Fit.mk _ _ _ (by simp [hw, hne, hne', hrn, hl0, hm0, hb0, hc0, hl1, hm1, hb1, hc1, hl3, hm3, hb3, hc3, hpl, hpa, conv2, newEmp, convs_refl, convs, conv]) (by simp [hw, hne, hne', hrn, hl0, hm0, hb0, hc0, hl1, hm1, hb1, hc1, hl3, hm3, hb3, hc3, hpl, hpa, heapFit, newEmp, conv2s, conv2, convs_refl, convs, conv]) (by intro q hq; first | (simp at hq; done) | (simp at hq; omega) | (simp at hq; simp; omega))
    · have hlt2 : ¬ (i : Int) < us.length := by omega
      have hF := And.intro (hlt) (hlt2)
      repeat (first | refine wD1 ?_ | refine wD2 ?_ | refine wE1 ?_ | refine wE2 ?_ | (refine wE3 ?_; intro _) | (refine wE4 ?_; intro _) | refine wN ?_ | ((with_reducible show evIs _ (_ :: _) _ _); first | refine wQ ?_ | refine wF ?_ | refine wG ?_ | refine wT ?_ | refine wM ?_ | refine wS ?_ | refine wP ?_ | refine wJ ?_ | refine wX ?_ | refine wY ?_))
      clear hF
      repeat refine evDone ?_
      try (show AW _ _ _ _ _)
      repeat refine AW.seq ?_
      refine AW.condF (by simp []) (by simp []) ?_
      refine AW.exit ?_
      show AW _ _ _ _ _
      have hii : i = us.length := by omega
      subst hii
      have ht : (us.map Undo.av).take us.length = us.map Undo.av := List.take_of_length_le (by simp)
      repeat refine AW.seq ?_
      refine AW.reg ?_
      have hF := And.intro (hne) (And.intro (hne') (And.intro (hnl) (And.intro (hl0) (And.intro (hl1) (And.intro (hl3) (And.intro (hm0) (And.intro (hm1) (hm3))))))))
      repeat (first | refine wD1 ?_ | refine wD2 ?_ | refine wE1 ?_ | refine wE2 ?_ | (refine wE3 ?_; intro _) | (refine wE4 ?_; intro _) | refine wN ?_ | ((with_reducible show evIs _ (_ :: _) _ _); first | refine wQ ?_ | refine wF ?_ | refine wG ?_ | refine wT ?_ | refine wM ?_ | refine wS ?_ | refine wP ?_ | refine wJ ?_ | refine wX ?_ | refine wY ?_))
      clear hF
      repeat refine evDone ?_
      try (show AW _ _ _ _ _)
      have hF := And.intro (hcl5) (And.intro (hcs5) (And.intro (hne) (And.intro (hne') (And.intro (hnl) (And.intro (hl0) (And.intro (hl1) (And.intro (hl3) (And.intro (hm0) (And.intro (hm1) (hm3))))))))))
      refine wC (hA := h40) ?_
      clear hF
      have hF := And.intro (hne) (And.intro (hne') (And.intro (hnl) (And.intro (hl0) (And.intro (hl1) (And.intro (hl3) (And.intro (hm0) (And.intro (hm1) (hm3))))))))
      repeat (first | refine wD1 ?_ | refine wD2 ?_ | refine wE1 ?_ | refine wE2 ?_ | (refine wE3 ?_; intro _) | (refine wE4 ?_; intro _) | refine wN ?_ | ((with_reducible show evIs _ (_ :: _) _ _); first | refine wQ ?_ | refine wF ?_ | refine wG ?_ | refine wT ?_ | refine wM ?_ | refine wS ?_ | refine wP ?_ | refine wJ ?_ | refine wX ?_ | refine wY ?_))
      clear hF
      repeat refine evDone ?_
      try (show AW _ _ _ _ _)
      repeat refine AW.seq ?_
      refine AW.reg ?_
      have hF := And.intro (hne) (And.intro (hne') (And.intro (hnl) (And.intro (hl0) (And.intro (hl1) (And.intro (hl3) (And.intro (hm0) (And.intro (hm1) (hm3))))))))
      repeat (first | refine wD1 ?_ | refine wD2 ?_ | refine wE1 ?_ | refine wE2 ?_ | (refine wE3 ?_; intro _) | (refine wE4 ?_; intro _) | refine wN ?_ | ((with_reducible show evIs _ (_ :: _) _ _); first | refine wQ ?_ | refine wF ?_ | refine wG ?_ | refine wT ?_ | refine wM ?_ | refine wS ?_ | refine wP ?_ | refine wJ ?_ | refine wX ?_ | refine wY ?_))
      clear hF
      repeat refine evDone ?_
      try (show AW _ _ _ _ _)
      refine AW.ret (retI rfl ?_)
      simp [pre_full, ht, hne, hne', hl0, hl1, hl3, hm0, hm1, hm3, a58_res, resOk, resP, resV, ARes.op, R2s, R2, R1s, R1, closeOk, closeV]
end Go.Proofs.Ytafkaofaioleiaa

set_option linter.unusedSimpArgs false
set_option linter.unusedVariables false
set_option maxHeartbeats 8000000
namespace Go.Proofs.Ytafkaofaioleiaa
open Go Go.Amb Go.IntWalk

/-- What a copy of a frame is told to be: its slots and marks are roots. -/
def FramePost (f : Frame) (N : Nat) (H1 : List (Nat × Blk)) (n' : Nat) (v : AV) : Prop :=
  ∃ S M, S ≠ M ∧ N ≤ S ∧ N ≤ M ∧ S < n' ∧ M < n' ∧ H1 = [(S, ⟨5, false, avs f.slots⟩), (M, ⟨10, false, f.marks.map Mark.av⟩)] ∧ v = .agg [.int .i64 f.fn, .int .i64 f.pc, .hdr S 0 f.slots.length, .sl .fro (avs f.stack), .hdr M 0 f.marks.length]
theorem flat_map_av (ms : List Mark) (x : Mark) : flat (ms.map Mark.av ++ [x.am]) = flat (ms.map Mark.av) ++ cellsOf x.am := by simp [flat]
theorem f44 (N : Nat) (f : Frame) (hok : f.ok) : BCall Try.prog 44 [] N [f.av] (FramePost f N) := by
  obtain ⟨fn, pc, slots, stack, marks⟩ := f
  obtain ⟨hs1, hs2, hs3, hs4, hm1, hm2⟩ := hok
  dsimp only at hs1 hs2 hs3 hs4 hm1 hm2
  simp only [Frame.av]
  have h56 := f56 stack hs3 hs4
  have h56b := f56b (N + 500) slots hs1 hs2
  obtain ⟨S, hS⟩ : ∃ S, S = N + 500 + 100 + 2 := ⟨_, rfl⟩
  rw [← hS] at h56b
  obtain ⟨A1, hA1⟩ : ∃ A, A = N + 1 := ⟨_, rfl⟩
  obtain ⟨A3, hA3⟩ : ∃ A, A = N + 13 := ⟨_, rfl⟩
  have hS0 : (S = N) = False ∧ (N = S) = False ∧ (S = N + 1) = False ∧ (N + 1 = S) = False ∧ (S = N + 13) = False ∧ (N + 13 = S) = False ∧ S < N + 700 := by
    refine ⟨?_, ?_, ?_, ?_, ?_, ?_, by omega⟩ <;> exact eq_false (by omega)
  refine bcall_coded a44_ok (by simp) ?_
  repeat refine AW.seq ?_
  refine AW.reg ?_
  have hF := True.intro
  repeat (first | refine wD1 ?_ | refine wD2 ?_ | refine wE1 ?_ | refine wE2 ?_ | (refine wE3 ?_; intro _) | (refine wE4 ?_; intro _) | refine wN ?_ | ((with_reducible show evIs _ (_ :: _) _ _); first | refine wQ ?_ | refine wF ?_ | refine wG ?_ | refine wT ?_ | refine wM ?_ | refine wS ?_ | refine wP ?_ | refine wJ ?_ | refine wX ?_ | refine wY ?_))
  clear hF
  repeat refine evDone ?_
  try (show AW _ _ _ _ _)
  refine AW.cut (st' := mkS [(1, .ptr N 0 0), (2, .ptr (N + 1) 0 0), (3, .ptr (N + 13) 0 0)] [(N, ⟨5, true, [.agg [.int .i64 fn, .int .i64 pc, .sl .fro (avs slots), .sl .fro (avs stack), .sl .fro (marks.map Mark.av)]]⟩), (N + 1, ⟨5, true, [.agg [.int .i64 0, .int .i64 0, .sl .ext [], .sl .ext [], .sl .ext []]]⟩), (N + 13, ⟨5, true, [.agg [.int .i64 fn, .int .i64 pc, .hdr S 0 slots.length, .sl .fro (avs stack), .sl .ext []]]⟩), (S, ⟨5, false, avs slots⟩)] (N + 700)) ?_ ?_
  · refine AW.draw ?_
    have hF := hS0
    repeat (first | refine wD1 ?_ | refine wD2 ?_ | refine wE1 ?_ | refine wE2 ?_ | (refine wE3 ?_; intro _) | (refine wE4 ?_; intro _) | refine wN ?_ | ((with_reducible show evIs _ (_ :: _) _ _); first | refine wQ ?_ | refine wF ?_ | refine wG ?_ | refine wT ?_ | refine wM ?_ | refine wS ?_ | refine wP ?_ | refine wJ ?_ | refine wX ?_ | refine wY ?_))
    clear hF
    repeat refine evDone ?_
    try (show AW _ _ _ _ _)
    refine evTwo ?_ ?_
    · have hF := hS0
      repeat (first | refine wD1 ?_ | refine wD2 ?_ | refine wE1 ?_ | refine wE2 ?_ | (refine wE3 ?_; intro _) | (refine wE4 ?_; intro _) | refine wN ?_ | ((with_reducible show evIs _ (_ :: _) _ _); first | refine wQ ?_ | refine wF ?_ | refine wG ?_ | refine wT ?_ | refine wM ?_ | refine wS ?_ | refine wP ?_ | refine wJ ?_ | refine wX ?_ | refine wY ?_))
      clear hF
      repeat refine evDone ?_
      try (show AW _ _ _ _ _)
      have hF := hS0
      refine wL (hA := h56b) ?_
      clear hF
      rintro _ _ _ ⟨rfl, rfl, rfl⟩
      have hF := hS0
      repeat (first | refine wD1 ?_ | refine wD2 ?_ | refine wE1 ?_ | refine wE2 ?_ | (refine wE3 ?_; intro _) | (refine wE4 ?_; intro _) | refine wN ?_ | ((with_reducible show evIs _ (_ :: _) _ _); first | refine wQ ?_ | refine wF ?_ | refine wG ?_ | refine wT ?_ | refine wM ?_ | refine wS ?_ | refine wP ?_ | refine wJ ?_ | refine wX ?_ | refine wY ?_))
      clear hF
      repeat refine evDone ?_
      try (show AW _ _ _ _ _)
      refine evTwo ?_ ?_
      · have hF := hS0
        repeat (first | refine wD1 ?_ | refine wD2 ?_ | refine wE1 ?_ | refine wE2 ?_ | (refine wE3 ?_; intro _) | (refine wE4 ?_; intro _) | refine wN ?_ | ((with_reducible show evIs _ (_ :: _) _ _); first | refine wQ ?_ | refine wF ?_ | refine wG ?_ | refine wT ?_ | refine wM ?_ | refine wS ?_ | refine wP ?_ | refine wJ ?_ | refine wX ?_ | refine wY ?_))
        clear hF
        repeat refine evDone ?_
        try (show AW _ _ _ _ _)
        have hF := hS0
        refine wC (hA := h56) ?_
        clear hF
        have hF := hS0
        repeat (first | refine wD1 ?_ | refine wD2 ?_ | refine wE1 ?_ | refine wE2 ?_ | (refine wE3 ?_; intro _) | (refine wE4 ?_; intro _) | refine wN ?_ | ((with_reducible show evIs _ (_ :: _) _ _); first | refine wQ ?_ | refine wF ?_ | refine wG ?_ | refine wT ?_ | refine wM ?_ | refine wS ?_ | refine wP ?_ | refine wJ ?_ | refine wX ?_ | refine wY ?_))
        clear hF
        repeat refine evDone ?_
        try (show AW _ _ _ _ _)
        refine ⟨rfl, ?_⟩
        refine Fit.mk _ _ _ (by simp [hS0, conv2, newEmp, convs_refl, convs, conv]) (by simp [hS0, heapFit, newEmp, conv2s, conv2, convs_refl, convs, conv]) (by intro q hq; first | (simp at hq; done) | (simp at hq; omega) | (simp at hq; simp; omega))
      · have hF := hS0
        repeat (first | refine wD1 ?_ | refine wD2 ?_ | refine wE1 ?_ | refine wE2 ?_ | (refine wE3 ?_; intro _) | (refine wE4 ?_; intro _) | refine wN ?_ | ((with_reducible show evIs _ (_ :: _) _ _); first | refine wQ ?_ | refine wF ?_ | refine wG ?_ | refine wT ?_ | refine wM ?_ | refine wS ?_ | refine wP ?_ | refine wJ ?_ | refine wX ?_ | refine wY ?_))
        clear hF
        repeat refine evDone ?_
        try (show AW _ _ _ _ _)
        have hF := hS0
        refine wC (hA := h56) ?_
        clear hF
        have hF := hS0
        repeat (first | refine wD1 ?_ | refine wD2 ?_ | refine wE1 ?_ | refine wE2 ?_ | (refine wE3 ?_; intro _) | (refine wE4 ?_; intro _) | refine wN ?_ | ((with_reducible show evIs _ (_ :: _) _ _); first | refine wQ ?_ | refine wF ?_ | refine wG ?_ | refine wT ?_ | refine wM ?_ | refine wS ?_ | refine wP ?_ | refine wJ ?_ | refine wX ?_ | refine wY ?_))
        clear hF
        repeat refine evDone ?_
        try (show AW _ _ _ _ _)
        refine ⟨rfl, ?_⟩
        refine Fit.mk _ _ _ (by simp [hS0, conv2, newEmp, convs_refl, convs, conv]) (by simp [hS0, heapFit, newEmp, conv2s, conv2, convs_refl, convs, conv]) (by intro q hq; first | (simp at hq; done) | (simp at hq; omega) | (simp at hq; simp; omega))
    · have hF := hS0
      repeat (first | refine wD1 ?_ | refine wD2 ?_ | refine wE1 ?_ | refine wE2 ?_ | (refine wE3 ?_; intro _) | (refine wE4 ?_; intro _) | refine wN ?_ | ((with_reducible show evIs _ (_ :: _) _ _); first | refine wQ ?_ | refine wF ?_ | refine wG ?_ | refine wT ?_ | refine wM ?_ | refine wS ?_ | refine wP ?_ | refine wJ ?_ | refine wX ?_ | refine wY ?_))
      clear hF
      repeat refine evDone ?_
      try (show AW _ _ _ _ _)
      have hF := hS0
      refine wL (hA := h56b) ?_
      clear hF
      rintro _ _ _ ⟨rfl, rfl, rfl⟩
      have hF := hS0
      repeat (first | refine wD1 ?_ | refine wD2 ?_ | refine wE1 ?_ | refine wE2 ?_ | (refine wE3 ?_; intro _) | (refine wE4 ?_; intro _) | refine wN ?_ | ((with_reducible show evIs _ (_ :: _) _ _); first | refine wQ ?_ | refine wF ?_ | refine wG ?_ | refine wT ?_ | refine wM ?_ | refine wS ?_ | refine wP ?_ | refine wJ ?_ | refine wX ?_ | refine wY ?_))
      clear hF
      repeat refine evDone ?_
      try (show AW _ _ _ _ _)
      have hF := hS0
      refine wC (hA := h56) ?_
      clear hF
      have hF := hS0
      repeat (first | refine wD1 ?_ | refine wD2 ?_ | refine wE1 ?_ | refine wE2 ?_ | (refine wE3 ?_; intro _) | (refine wE4 ?_; intro _) | refine wN ?_ | ((with_reducible show evIs _ (_ :: _) _ _); first | refine wQ ?_ | refine wF ?_ | refine wG ?_ | refine wT ?_ | refine wM ?_ | refine wS ?_ | refine wP ?_ | refine wJ ?_ | refine wX ?_ | refine wY ?_))
      clear hF
      repeat refine evDone ?_
      try (show AW _ _ _ _ _)
      refine ⟨rfl, ?_⟩
      refine Fit.mk _ _ _ (by simp [hS0, conv2, newEmp, convs_refl, convs, conv]) (by simp [hS0, heapFit, newEmp, conv2s, conv2, convs_refl, convs, conv]) (by intro q hq; first | (simp at hq; done) | (simp at hq; omega) | (simp at hq; simp; omega))
  rw [← hA1, ← hA3]
  obtain ⟨n0, hn0⟩ : ∃ n, n = N + 700 := ⟨_, rfl⟩
  rw [← hn0]
  have hD0 : (N = A1) = False ∧ (N = A3) = False ∧ (N = S) = False ∧ (A1 = N) = False ∧ (A1 = A3) = False ∧ (A1 = S) = False ∧ (A3 = N) = False ∧ (A3 = A1) = False ∧ (A3 = S) = False ∧ (S = N) = False ∧ (S = A1) = False ∧ (S = A3) = False := by
    refine ⟨?_, ?_, ?_, ?_, ?_, ?_, ?_, ?_, ?_, ?_, ?_, ?_⟩ <;> exact eq_false (by omega)
  have hN0 : (∀ k, (N = n0 + k) = False) ∧ (∀ k, (n0 + k = N) = False) ∧ (∀ k, (A1 = n0 + k) = False) ∧ (∀ k, (n0 + k = A1) = False) ∧ (∀ k, (A3 = n0 + k) = False) ∧ (∀ k, (n0 + k = A3) = False) ∧ (∀ k, (S = n0 + k) = False) ∧ (∀ k, (n0 + k = S) = False) ∧ (∀ k, (n0 + k < n0) = False) := by
    refine ⟨?_, ?_, ?_, ?_, ?_, ?_, ?_, ?_, ?_⟩ <;> exact fun k => eq_false (by omega)
  have hL0 : (∀ k, N < n0 + k) ∧ (∀ k, A1 < n0 + k) ∧ (∀ k, A3 < n0 + k) ∧ (∀ k, S < n0 + k) := by
    refine ⟨?_, ?_, ?_, ?_⟩ <;> exact fun k => by omega
  have hB0 : N < n0 ∧ A1 < n0 ∧ A3 < n0 ∧ S < n0 := by refine ⟨?_, ?_, ?_, ?_⟩ <;> omega
  repeat refine AW.seq ?_
  refine AW.reg ?_
  have hF := And.intro (hD0) (hN0)
  repeat (first | refine wD1 ?_ | refine wD2 ?_ | refine wE1 ?_ | refine wE2 ?_ | (refine wE3 ?_; intro _) | (refine wE4 ?_; intro _) | refine wN ?_ | ((with_reducible show evIs _ (_ :: _) _ _); first | refine wQ ?_ | refine wF ?_ | refine wG ?_ | refine wT ?_ | refine wM ?_ | refine wS ?_ | refine wP ?_ | refine wJ ?_ | refine wX ?_ | refine wY ?_))
  clear hF
  repeat refine evDone ?_
  try (show AW _ _ _ _ _)
  repeat refine AW.seq ?_
  refine AW.block ?_
  refine AW.loop (fun g : Nat × Nat × Nat => g.1 ≤ marks.length ∧ g.2.2 < g.2.1 ∧ n0 ≤ g.2.2 ∧ n0 ≤ g.2.1) (fun g => mkS [(1, .ptr N 0 0), (2, .ptr A1 0 0), (3, .ptr A3 0 0), (21, .sl .fro (marks.map Mark.av)), (22, .int .i64 marks.length), (23, .int .i64 g.1)] [(N, ⟨5, true, [.agg [.int .i64 fn, .int .i64 pc, .sl .fro (avs slots), .sl .fro (avs stack), .sl .fro (marks.map Mark.av)]]⟩), (A1, ⟨5, true, [.agg [.int .i64 0, .int .i64 0, .sl .ext [], .sl .ext [], .sl .ext []]]⟩), (A3, ⟨5, true, [.agg [.int .i64 fn, .int .i64 pc, .hdr S 0 slots.length, .sl .fro (avs stack), .hdr g.2.2 0 g.1]]⟩), (S, ⟨5, false, avs slots⟩), (g.2.2, ⟨10, false, pre Mark.av marks g.1⟩)] g.2.1) (fun g => marks.length - g.1) (0, n0 + 20, n0 + 10) ⟨by simp, by simp, by simp, by simp⟩ ?_ ?_
  · refine Fit.mk _ _ _ (by simp [pre_zero, hD0, hN0, hL0, hB0, conv2, newEmp, convs_refl, convs, conv]) (by simp [pre_zero, hD0, hN0, hL0, hB0, heapFit, newEmp, conv2s, conv2, convs_refl, convs, conv]) (by intro q hq; first | (simp at hq; done) | (simp at hq; omega) | (simp at hq; simp; omega))
  · rintro ⟨i, n, r⟩ ⟨hi, hr, hr0, hn00⟩
    dsimp only at hi hr hr0 hn00 ⊢
    have hD : (N = A1) = False ∧ (N = A3) = False ∧ (N = S) = False ∧ (N = r) = False ∧ (A1 = N) = False ∧ (A1 = A3) = False ∧ (A1 = S) = False ∧ (A1 = r) = False ∧ (A3 = N) = False ∧ (A3 = A1) = False ∧ (A3 = S) = False ∧ (A3 = r) = False ∧ (S = N) = False ∧ (S = A1) = False ∧ (S = A3) = False ∧ (S = r) = False ∧ (r = N) = False ∧ (r = A1) = False ∧ (r = A3) = False ∧ (r = S) = False := by
      refine ⟨?_, ?_, ?_, ?_, ?_, ?_, ?_, ?_, ?_, ?_, ?_, ?_, ?_, ?_, ?_, ?_, ?_, ?_, ?_, ?_⟩ <;> exact eq_false (by omega)
    have hN : (∀ k, (N = n + k) = False) ∧ (∀ k, (n + k = N) = False) ∧ (∀ k, (A1 = n + k) = False) ∧ (∀ k, (n + k = A1) = False) ∧ (∀ k, (A3 = n + k) = False) ∧ (∀ k, (n + k = A3) = False) ∧ (∀ k, (S = n + k) = False) ∧ (∀ k, (n + k = S) = False) ∧ (∀ k, (r = n + k) = False) ∧ (∀ k, (n + k = r) = False) ∧ (∀ k, (n + k < n) = False) := by
      refine ⟨?_, ?_, ?_, ?_, ?_, ?_, ?_, ?_, ?_, ?_, ?_⟩ <;> exact fun k => eq_false (by omega)
    have hL : (∀ k, N < n + k) ∧ (∀ k, A1 < n + k) ∧ (∀ k, A3 < n + k) ∧ (∀ k, S < n + k) ∧ (∀ k, r < n + k) := by
      refine ⟨?_, ?_, ?_, ?_, ?_⟩ <;> exact fun k => by omega
    have hB : N < n ∧ A1 < n ∧ A3 < n ∧ S < n ∧ r < n := by refine ⟨?_, ?_, ?_, ?_, ?_⟩ <;> omega
    repeat refine AW.seq ?_
    refine AW.reg ?_
    by_cases hlt : i < marks.length
    · have hF := hlt
      repeat (first | refine wD1 ?_ | refine wD2 ?_ | refine wE1 ?_ | refine wE2 ?_ | (refine wE3 ?_; intro _) | (refine wE4 ?_; intro _) | refine wN ?_ | ((with_reducible show evIs _ (_ :: _) _ _); first | refine wQ ?_ | refine wF ?_ | refine wG ?_ | refine wT ?_ | refine wM ?_ | refine wS ?_ | refine wP ?_ | refine wJ ?_ | refine wX ?_ | refine wY ?_))
      clear hF
      repeat refine evDone ?_
      try (show AW _ _ _ _ _)
      repeat refine AW.seq ?_
      refine AW.condT (by simp []) (by simp []) ?_
      refine AW.skip ?_
      show AW _ _ _ _ _
      refine AW.seq (AW.block ?_)
      obtain ⟨x, hx⟩ : ∃ x, marks[i]? = some x := ⟨_, List.getElem?_eq_getElem hlt⟩
      have he := elem_map (f := Mark.av) hx
      have hpl := pre_len (f := Mark.av) hi
      have hpa := pre_add (f := Mark.av) hx
      have hxo := hm2 x (List.mem_of_getElem? hx)
      obtain ⟨kind, target, slot, height, us, tk, tn, tt, ti, ts⟩ := x
      obtain ⟨hu1, hu2, hu3⟩ := hxo
      dsimp only at hu1 hu2 hu3
      have h33 := f33 tk tn tt ti ts hu3
      simp only [Mark.av] at he
      have hcl5 := clC_avs ti
      have hcs5 := strs_cl ts
      repeat refine AW.seq ?_
      refine AW.reg ?_
      have hF := And.intro (hlt) (And.intro (he) (And.intro (hD) (hN)))
      repeat (first | refine wD1 ?_ | refine wD2 ?_ | refine wE1 ?_ | refine wE2 ?_ | (refine wE3 ?_; intro _) | (refine wE4 ?_; intro _) | refine wN ?_ | ((with_reducible show evIs _ (_ :: _) _ _); first | refine wQ ?_ | refine wF ?_ | refine wG ?_ | refine wT ?_ | refine wM ?_ | refine wS ?_ | refine wP ?_ | refine wJ ?_ | refine wX ?_ | refine wY ?_))
      clear hF
      repeat refine evDone ?_
      try (show AW _ _ _ _ _)
      repeat refine AW.seq ?_
      refine AW.reg ?_
      have hF := And.intro (hD) (hN)
      repeat (first | refine wD1 ?_ | refine wD2 ?_ | refine wE1 ?_ | refine wE2 ?_ | (refine wE3 ?_; intro _) | (refine wE4 ?_; intro _) | refine wN ?_ | ((with_reducible show evIs _ (_ :: _) _ _); first | refine wQ ?_ | refine wF ?_ | refine wG ?_ | refine wT ?_ | refine wM ?_ | refine wS ?_ | refine wP ?_ | refine wJ ?_ | refine wX ?_ | refine wY ?_))
      clear hF
      repeat refine evDone ?_
      try (show AW _ _ _ _ _)
      have hF := And.intro (hcl5) (And.intro (hcs5) (And.intro (hD) (hN)))
      refine wC (hA := h33) ?_
      clear hF
      have hF := And.intro (hD) (hN)
      repeat (first | refine wD1 ?_ | refine wD2 ?_ | refine wE1 ?_ | refine wE2 ?_ | (refine wE3 ?_; intro _) | (refine wE4 ?_; intro _) | refine wN ?_ | ((with_reducible show evIs _ (_ :: _) _ _); first | refine wQ ?_ | refine wF ?_ | refine wG ?_ | refine wT ?_ | refine wM ?_ | refine wS ?_ | refine wP ?_ | refine wJ ?_ | refine wX ?_ | refine wY ?_))
      clear hF
      repeat refine evDone ?_
      try (show AW _ _ _ _ _)
      repeat refine AW.seq ?_
      refine AW.reg ?_
      have hF := And.intro (hD) (hN)
      repeat (first | refine wD1 ?_ | refine wD2 ?_ | refine wE1 ?_ | refine wE2 ?_ | (refine wE3 ?_; intro _) | (refine wE4 ?_; intro _) | refine wN ?_ | ((with_reducible show evIs _ (_ :: _) _ _); first | refine wQ ?_ | refine wF ?_ | refine wG ?_ | refine wT ?_ | refine wM ?_ | refine wS ?_ | refine wP ?_ | refine wJ ?_ | refine wX ?_ | refine wY ?_))
      clear hF
      repeat refine evDone ?_
      try (show AW _ _ _ _ _)
      repeat refine AW.seq ?_
      refine AW.reg ?_
      have hF := And.intro (hD) (hN)
      repeat (first | refine wD1 ?_ | refine wD2 ?_ | refine wE1 ?_ | refine wE2 ?_ | (refine wE3 ?_; intro _) | (refine wE4 ?_; intro _) | refine wN ?_ | ((with_reducible show evIs _ (_ :: _) _ _); first | refine wQ ?_ | refine wF ?_ | refine wG ?_ | refine wT ?_ | refine wM ?_ | refine wS ?_ | refine wP ?_ | refine wJ ?_ | refine wX ?_ | refine wY ?_))
      clear hF
      repeat refine evDone ?_
      try (show AW _ _ _ _ _)
      repeat refine AW.seq ?_
      refine AW.reg ?_
      have hF := And.intro (hD) (hN)
      repeat (first | refine wD1 ?_ | refine wD2 ?_ | refine wE1 ?_ | refine wE2 ?_ | (refine wE3 ?_; intro _) | (refine wE4 ?_; intro _) | refine wN ?_ | ((with_reducible show evIs _ (_ :: _) _ _); first | refine wQ ?_ | refine wF ?_ | refine wG ?_ | refine wT ?_ | refine wM ?_ | refine wS ?_ | refine wP ?_ | refine wJ ?_ | refine wX ?_ | refine wY ?_))
      clear hF
      repeat refine evDone ?_
      try (show AW _ _ _ _ _)
      obtain ⟨B, hBB⟩ : ∃ B, B = n + 22 := ⟨_, rfl⟩
      obtain ⟨n1, hn1⟩ : ∃ k, k = n + 70 := ⟨_, rfl⟩
      repeat refine AW.seq ?_
      refine AW.block ?_
      refine AW.loop (fun g : Nat × Nat × Nat => g.1 ≤ us.length ∧ g.2.2 < g.2.1 ∧ n1 ≤ g.2.2 ∧ n1 ≤ g.2.1) (fun g => mkS [(1, .ptr N 0 0), (2, .ptr A1 0 0), (3, .ptr A3 0 0), (21, .sl .fro (marks.map Mark.av)), (22, .int .i64 marks.length), (23, .int .i64 i), (5, .ptr B 0 0), (34, .sl .fro (us.map Undo.av)), (35, .int .i64 us.length), (36, .int .i64 g.1)] [(N, ⟨5, true, [.agg [.int .i64 fn, .int .i64 pc, .sl .fro (avs slots), .sl .fro (avs stack), .sl .fro (marks.map Mark.av)]]⟩), (A1, ⟨5, true, [.agg [.int .i64 0, .int .i64 0, .sl .ext [], .sl .ext [], .sl .ext []]]⟩), (A3, ⟨5, true, [.agg [.int .i64 fn, .int .i64 pc, .hdr S 0 slots.length, .sl .fro (avs stack), .hdr r 0 i]]⟩), (S, ⟨5, false, avs slots⟩), (r, ⟨10, false, pre Mark.av marks i⟩), (B, ⟨10, true, [.agg [.int .i64 kind, .int .i64 target, .int .i64 slot, .int .i64 height, .hdr g.2.2 0 g.1, .int .i64 tk, .int .i64 tn, .str tt, .sl .fro (avs ti), .sl .fro (ts.map .str)]]⟩), (g.2.2, ⟨2, false, pre Undo.av us g.1⟩)] g.2.1) (fun g => us.length - g.1) (0, n + 90, n + 80) ⟨by simp, by dsimp only; omega, by dsimp only; omega, by dsimp only; omega⟩ ?_ ?_
      · subst hBB
        refine Fit.mk _ _ _ (by simp [pre_zero, hD, hN, hL, hB, conv2, newEmp, convs_refl, convs, conv]) (by simp [pre_zero, hD, hN, hL, hB, heapFit, newEmp, conv2s, conv2, convs_refl, convs, conv]) (by intro q hq; first | (simp at hq; done) | (simp at hq; omega) | (simp at hq; simp; omega))
      · rintro ⟨j, m, q⟩ ⟨hj, hq, hq0, hm0⟩
        dsimp only at hj hq hq0 hm0 ⊢
        have hD2 : (N = A1) = False ∧ (N = A3) = False ∧ (N = S) = False ∧ (N = r) = False ∧ (N = B) = False ∧ (N = q) = False ∧ (A1 = N) = False ∧ (A1 = A3) = False ∧ (A1 = S) = False ∧ (A1 = r) = False ∧ (A1 = B) = False ∧ (A1 = q) = False ∧ (A3 = N) = False ∧ (A3 = A1) = False ∧ (A3 = S) = False ∧ (A3 = r) = False ∧ (A3 = B) = False ∧ (A3 = q) = False ∧ (S = N) = False ∧ (S = A1) = False ∧ (S = A3) = False ∧ (S = r) = False ∧ (S = B) = False ∧ (S = q) = False ∧ (r = N) = False ∧ (r = A1) = False ∧ (r = A3) = False ∧ (r = S) = False ∧ (r = B) = False ∧ (r = q) = False ∧ (B = N) = False ∧ (B = A1) = False ∧ (B = A3) = False ∧ (B = S) = False ∧ (B = r) = False ∧ (B = q) = False ∧ (q = N) = False ∧ (q = A1) = False ∧ (q = A3) = False ∧ (q = S) = False ∧ (q = r) = False ∧ (q = B) = False := by
          refine ⟨?_, ?_, ?_, ?_, ?_, ?_, ?_, ?_, ?_, ?_, ?_, ?_, ?_, ?_, ?_, ?_, ?_, ?_, ?_, ?_, ?_, ?_, ?_, ?_, ?_, ?_, ?_, ?_, ?_, ?_, ?_, ?_, ?_, ?_, ?_, ?_, ?_, ?_, ?_, ?_, ?_, ?_⟩ <;> exact eq_false (by omega)
        have hN2 : (∀ k, (N = m + k) = False) ∧ (∀ k, (m + k = N) = False) ∧ (∀ k, (A1 = m + k) = False) ∧ (∀ k, (m + k = A1) = False) ∧ (∀ k, (A3 = m + k) = False) ∧ (∀ k, (m + k = A3) = False) ∧ (∀ k, (S = m + k) = False) ∧ (∀ k, (m + k = S) = False) ∧ (∀ k, (r = m + k) = False) ∧ (∀ k, (m + k = r) = False) ∧ (∀ k, (B = m + k) = False) ∧ (∀ k, (m + k = B) = False) ∧ (∀ k, (q = m + k) = False) ∧ (∀ k, (m + k = q) = False) ∧ (∀ k, (m + k < m) = False) := by
          refine ⟨?_, ?_, ?_, ?_, ?_, ?_, ?_, ?_, ?_, ?_, ?_, ?_, ?_, ?_, ?_⟩ <;> exact fun k => eq_false (by omega)
        have hL2 : (∀ k, N < m + k) ∧ (∀ k, A1 < m + k) ∧ (∀ k, A3 < m + k) ∧ (∀ k, S < m + k) ∧ (∀ k, r < m + k) ∧ (∀ k, B < m + k) ∧ (∀ k, q < m + k) := by
          refine ⟨?_, ?_, ?_, ?_, ?_, ?_, ?_⟩ <;> exact fun k => by omega
        have hB2 : N < m ∧ A1 < m ∧ A3 < m ∧ S < m ∧ r < m ∧ B < m ∧ q < m := by refine ⟨?_, ?_, ?_, ?_, ?_, ?_, ?_⟩ <;> omega
        repeat refine AW.seq ?_
        refine AW.reg ?_
        by_cases hlt2 : j < us.length
        · have hF := hlt2
          repeat (first | refine wD1 ?_ | refine wD2 ?_ | refine wE1 ?_ | refine wE2 ?_ | (refine wE3 ?_; intro _) | (refine wE4 ?_; intro _) | refine wN ?_ | ((with_reducible show evIs _ (_ :: _) _ _); first | refine wQ ?_ | refine wF ?_ | refine wG ?_ | refine wT ?_ | refine wM ?_ | refine wS ?_ | refine wP ?_ | refine wJ ?_ | refine wX ?_ | refine wY ?_))
          clear hF
          repeat refine evDone ?_
          try (show AW _ _ _ _ _)
          repeat refine AW.seq ?_
          refine AW.condT (by simp []) (by simp []) ?_
          refine AW.skip ?_
          show AW _ _ _ _ _
          refine AW.seq (AW.block ?_)
          obtain ⟨y, hy⟩ : ∃ y, us[j]? = some y := ⟨_, List.getElem?_eq_getElem hlt2⟩
          have he2 := elem_map (f := Undo.av) hy
          have hpl2 := pre_len (f := Undo.av) hj
          have hpa2 := pre_add (f := Undo.av) hy
          have h49 := f49 y (hu2 y (List.mem_of_getElem? hy))
          obtain ⟨ufn, uargs⟩ := y
          simp only [Undo.av] at he2 hpa2 h49
          have hby : (j + 1) * 32 ≤ 140737488355328 := by omega
          have hby2 : j + 1 ≤ 9223372036854775807 := by omega
          repeat refine AW.seq ?_
          refine AW.reg ?_
          have hF := And.intro (hlt2) (And.intro (he2) (And.intro (hD2) (hN2)))
          repeat (first | refine wD1 ?_ | refine wD2 ?_ | refine wE1 ?_ | refine wE2 ?_ | (refine wE3 ?_; intro _) | (refine wE4 ?_; intro _) | refine wN ?_ | ((with_reducible show evIs _ (_ :: _) _ _); first | refine wQ ?_ | refine wF ?_ | refine wG ?_ | refine wT ?_ | refine wM ?_ | refine wS ?_ | refine wP ?_ | refine wJ ?_ | refine wX ?_ | refine wY ?_))
          clear hF
          repeat refine evDone ?_
          try (show AW _ _ _ _ _)
          repeat refine AW.seq ?_
          refine AW.draw ?_
          have hF := And.intro (hD2) (hN2)
          repeat (first | refine wD1 ?_ | refine wD2 ?_ | refine wE1 ?_ | refine wE2 ?_ | (refine wE3 ?_; intro _) | (refine wE4 ?_; intro _) | refine wN ?_ | ((with_reducible show evIs _ (_ :: _) _ _); first | refine wQ ?_ | refine wF ?_ | refine wG ?_ | refine wT ?_ | refine wM ?_ | refine wS ?_ | refine wP ?_ | refine wJ ?_ | refine wX ?_ | refine wY ?_))
          clear hF
          repeat refine evDone ?_
          try (show AW _ _ _ _ _)
          have hF := And.intro (hD2) (hN2)
          refine wC (hA := h49) ?_
          clear hF
          have hF := And.intro (hpl2) (And.intro (hby) (And.intro (hby2) (And.intro (hD2) (hN2))))
          repeat (first | refine wD1 ?_ | refine wD2 ?_ | refine wE1 ?_ | refine wE2 ?_ | (refine wE3 ?_; intro _) | (refine wE4 ?_; intro _) | refine wN ?_ | ((with_reducible show evIs _ (_ :: _) _ _); first | refine wQ ?_ | refine wF ?_ | refine wG ?_ | refine wT ?_ | refine wM ?_ | refine wS ?_ | refine wP ?_ | refine wJ ?_ | refine wX ?_ | refine wY ?_))
          clear hF
          repeat refine evDone ?_
          try (show AW _ _ _ _ _)
          refine AW.reg ?_
          have hw : IntKind.i64.wrap ((j : Int) + 1) = (j : Int) + 1 := i64_in _ ⟨by omega, by omega⟩
          have hF := hw
          repeat (first | refine wD1 ?_ | refine wD2 ?_ | refine wE1 ?_ | refine wE2 ?_ | (refine wE3 ?_; intro _) | (refine wE4 ?_; intro _) | refine wN ?_ | ((with_reducible show evIs _ (_ :: _) _ _); first | refine wQ ?_ | refine wF ?_ | refine wG ?_ | refine wT ?_ | refine wM ?_ | refine wS ?_ | refine wP ?_ | refine wJ ?_ | refine wX ?_ | refine wY ?_))
          clear hF
          repeat refine evDone ?_
          try (show AW _ _ _ _ _)
          refine ⟨(j + 1, m + 60, m + 47), ⟨by dsimp only; omega, by dsimp only; omega, by dsimp only; omega, by dsimp only; omega⟩, by dsimp only; omega, ?_⟩
          refine Fit.mk _ _ _ (by simp [hw, hpl2, hpa2, hD2, hN2, hL2, hB2, conv2, newEmp, convs_refl, convs, conv]) (by simp [hw, hpl2, hpa2, hD2, hN2, hL2, hB2, heapFit, newEmp, conv2s, conv2, convs_refl, convs, conv]) (by intro q hq; first | (simp at hq; done) | (simp at hq; omega) | (simp at hq; simp; omega))
        · have hlt3 : ¬ (j : Int) < us.length := by omega
          have hjj : j = us.length := by omega
          subst hjj
          have hF := And.intro (hlt2) (hlt3)
          repeat (first | refine wD1 ?_ | refine wD2 ?_ | refine wE1 ?_ | refine wE2 ?_ | (refine wE3 ?_; intro _) | (refine wE4 ?_; intro _) | refine wN ?_ | ((with_reducible show evIs _ (_ :: _) _ _); first | refine wQ ?_ | refine wF ?_ | refine wG ?_ | refine wT ?_ | refine wM ?_ | refine wS ?_ | refine wP ?_ | refine wJ ?_ | refine wX ?_ | refine wY ?_))
          clear hF
          repeat refine evDone ?_
          try (show AW _ _ _ _ _)
          repeat refine AW.seq ?_
          refine AW.condF (by simp []) (by simp []) ?_
          refine AW.exit ?_
          show AW _ _ _ _ _
          have hby : (i + 1) * 136 ≤ 140737488355328 := by omega
          have hby2 : i + 1 ≤ 9223372036854775807 := by omega
          have htu : (us.map Undo.av).take us.length = us.map Undo.av := List.take_of_length_le (by simp)
          repeat refine AW.seq ?_
          refine AW.reg ?_
          have hpu : pre Undo.av us us.length = us.map Undo.av := pre_full
          have hF := And.intro (hpl) (And.intro (hby) (And.intro (hby2) (And.intro (hpu) (And.intro (htu) (And.intro (hD2) (hN2))))))
          repeat (first | refine wD1 ?_ | refine wD2 ?_ | refine wE1 ?_ | refine wE2 ?_ | (refine wE3 ?_; intro _) | (refine wE4 ?_; intro _) | refine wN ?_ | ((with_reducible show evIs _ (_ :: _) _ _); first | refine wQ ?_ | refine wF ?_ | refine wG ?_ | refine wT ?_ | refine wM ?_ | refine wS ?_ | refine wP ?_ | refine wJ ?_ | refine wX ?_ | refine wY ?_))
          clear hF
          repeat refine evDone ?_
          try (show AW _ _ _ _ _)
          refine AW.fit (Fit.chill (r := m + 56) (b := ⟨10, false, pre Mark.av marks i ++ [(Mark.mk kind target slot height us tk tn tt ti ts).am]⟩) (A := flat (pre Mark.av marks i) ++ [.int .i64 kind, .int .i64 target, .int .i64 slot, .int .i64 height]) (C := [.int .i64 tk, .int .i64 tn, .str tt, .sl .fro (avs ti), .sl .fro (ts.map .str)]) (xs := us.map Undo.av) (sz := 2) (es' := pre Mark.av marks (i + 1)) (by simp [hD2, hN2, hpu, htu, Mark.am]) ?_ ?_ ?_ ?_) ?_
          · simp [flat, Mark.am]
          · rw [← hpa, undos_cl]
            simp [flat, Mark.av]
          · rw [← hpa]
            simp
          · intro z hz
            obtain ⟨z', _, rfl⟩ := List.mem_map.1 hz
            exact mark_len z'
          refine AW.reg ?_
          have hw : IntKind.i64.wrap ((i : Int) + 1) = (i : Int) + 1 := i64_in _ ⟨by omega, by omega⟩
          have hF := hw
          repeat (first | refine wD1 ?_ | refine wD2 ?_ | refine wE1 ?_ | refine wE2 ?_ | (refine wE3 ?_; intro _) | (refine wE4 ?_; intro _) | refine wN ?_ | ((with_reducible show evIs _ (_ :: _) _ _); first | refine wQ ?_ | refine wF ?_ | refine wG ?_ | refine wT ?_ | refine wM ?_ | refine wS ?_ | refine wP ?_ | refine wJ ?_ | refine wX ?_ | refine wY ?_))
          clear hF
          repeat refine evDone ?_
          try (show AW _ _ _ _ _)
          refine ⟨(i + 1, m + 60, m + 56), ⟨by dsimp only; omega, by dsimp only; omega, by dsimp only; omega, by dsimp only; omega⟩, by dsimp only; omega, ?_⟩
          refine Fit.mk _ _ _ (by simp [hw, hpl, hD2, hN2, hL2, hB2, conv2, newEmp, convs_refl, convs, conv]) (by simp [hw, hpl, hD2, hN2, hL2, hB2, heapFit, newEmp, conv2s, conv2, convs_refl, convs, conv]) (by intro q hq; first | (simp at hq; done) | (simp at hq; omega) | (simp at hq; simp; omega))
    · have hlt2 : ¬ (i : Int) < marks.length := by omega
      have hii : i = marks.length := by omega
      subst hii
      have hF := And.intro (hlt) (hlt2)
      repeat (first | refine wD1 ?_ | refine wD2 ?_ | refine wE1 ?_ | refine wE2 ?_ | (refine wE3 ?_; intro _) | (refine wE4 ?_; intro _) | refine wN ?_ | ((with_reducible show evIs _ (_ :: _) _ _); first | refine wQ ?_ | refine wF ?_ | refine wG ?_ | refine wT ?_ | refine wM ?_ | refine wS ?_ | refine wP ?_ | refine wJ ?_ | refine wX ?_ | refine wY ?_))
      clear hF
      repeat refine evDone ?_
      try (show AW _ _ _ _ _)
      repeat refine AW.seq ?_
      refine AW.condF (by simp []) (by simp []) ?_
      refine AW.exit ?_
      show AW _ _ _ _ _
      have hpf : pre Mark.av marks marks.length = marks.map Mark.av := pre_full
      repeat refine AW.seq ?_
      refine AW.reg ?_
      have hF := And.intro (hD) (hN)
      repeat (first | refine wD1 ?_ | refine wD2 ?_ | refine wE1 ?_ | refine wE2 ?_ | (refine wE3 ?_; intro _) | (refine wE4 ?_; intro _) | refine wN ?_ | ((with_reducible show evIs _ (_ :: _) _ _); first | refine wQ ?_ | refine wF ?_ | refine wG ?_ | refine wT ?_ | refine wM ?_ | refine wS ?_ | refine wP ?_ | refine wJ ?_ | refine wX ?_ | refine wY ?_))
      clear hF
      repeat refine evDone ?_
      try (show AW _ _ _ _ _)
      refine AW.ret ⟨by simp [resP, a44_res, ARes.op, hD, hN], [(S, ⟨5, false, avs slots⟩), (r, ⟨10, false, marks.map Mark.av⟩)], n, [.agg [.int .i64 fn, .int .i64 pc, .hdr S 0 slots.length, .sl .fro (avs stack), .hdr r 0 marks.length]], ⟨S, r, by omega, by omega, by omega, by omega, by omega, rfl, rfl⟩, by omega, ?_, rfl, by simp, ?_⟩
      · intro p hp
        simp at hp
        rcases hp with rfl | rfl <;> exact .inr (by dsimp only; omega)
      simp only [resV, a44_res, List.map_cons, List.map_nil, ARes.op]
      refine Fit.mk _ _ _ (by simp [hpf, hD, hN, hL, hB, conv2, newEmp, convs_refl, convs, conv]) (by simp [hpf, hD, hN, hL, hB, heapFit, newEmp, conv2s, conv2, convs_refl, convs, conv]) (by intro q hq; first | (simp at hq; done) | (simp at hq; omega) | (simp at hq; simp; omega))
end Go.Proofs.Ytafkaofaioleiaa

set_option linter.unusedSimpArgs false
set_option linter.unusedVariables false
set_option maxHeartbeats 8000000
namespace Go.Proofs.Ytafkaofaioleiaa
open Go Go.Amb Go.IntWalk

theorem f45 (N : Nat) (f : Frame) (hok : f.ok) : BCall Try.prog 45 [] N [f.av] (FramePost f N) := by
  obtain ⟨fn, pc, slots, stack, marks⟩ := f
  obtain ⟨hs1, hs2, hs3, hs4, hm1, hm2⟩ := hok
  dsimp only at hs1 hs2 hs3 hs4 hm1 hm2
  simp only [Frame.av]
  have h57 := f57 stack hs3 hs4
  have h57b := f57 slots hs1 hs2
  have hck := clC_avs stack
  obtain ⟨S, hS⟩ : ∃ S, S = N + 8 := ⟨_, rfl⟩
  obtain ⟨A1, hA1⟩ : ∃ A, A = N + 1 := ⟨_, rfl⟩
  obtain ⟨A3, hA3⟩ : ∃ A, A = N + 13 := ⟨_, rfl⟩
  have hnl : ∀ k, (N + k < N) = False := fun k => eq_false (by omega)
  refine bcall_coded a45_ok (by simp) ?_
  repeat refine AW.seq ?_
  refine AW.reg ?_
  have hF := True.intro
  repeat (first | refine wD1 ?_ | refine wD2 ?_ | refine wE1 ?_ | refine wE2 ?_ | (refine wE3 ?_; intro _) | (refine wE4 ?_; intro _) | refine wN ?_ | ((with_reducible show evIs _ (_ :: _) _ _); first | refine wQ ?_ | refine wF ?_ | refine wG ?_ | refine wT ?_ | refine wM ?_ | refine wS ?_ | refine wP ?_ | refine wJ ?_ | refine wX ?_ | refine wY ?_))
  clear hF
  repeat refine evDone ?_
  try (show AW _ _ _ _ _)
  refine AW.cut (st' := mkS [(1, .ptr N 0 0), (2, .ptr (N + 1) 0 0), (3, .ptr (N + 13) 0 0)] [(N, ⟨5, true, [.agg [.int .i64 fn, .int .i64 pc, .sl .fro (avs slots), .sl .fro (avs stack), .sl .fro (marks.map Mark.av)]]⟩), (N + 1, ⟨5, true, [.agg [.int .i64 0, .int .i64 0, .sl .ext [], .sl .ext [], .sl .ext []]]⟩), (N + 13, ⟨5, true, [.agg [.int .i64 fn, .int .i64 pc, .hdr (N + 8) 0 slots.length, .sl .fro (avs stack), .sl .ext []]]⟩), (N + 8, ⟨5, false, avs slots⟩)] (N + 700)) ?_ ?_
  · refine AW.draw ?_
    have hF := hnl
    repeat (first | refine wD1 ?_ | refine wD2 ?_ | refine wE1 ?_ | refine wE2 ?_ | (refine wE3 ?_; intro _) | (refine wE4 ?_; intro _) | refine wN ?_ | ((with_reducible show evIs _ (_ :: _) _ _); first | refine wQ ?_ | refine wF ?_ | refine wG ?_ | refine wT ?_ | refine wM ?_ | refine wS ?_ | refine wP ?_ | refine wJ ?_ | refine wX ?_ | refine wY ?_))
    clear hF
    repeat refine evDone ?_
    try (show AW _ _ _ _ _)
    refine evTwo ?_ ?_
    · have hF := hnl
      repeat (first | refine wD1 ?_ | refine wD2 ?_ | refine wE1 ?_ | refine wE2 ?_ | (refine wE3 ?_; intro _) | (refine wE4 ?_; intro _) | refine wN ?_ | ((with_reducible show evIs _ (_ :: _) _ _); first | refine wQ ?_ | refine wF ?_ | refine wG ?_ | refine wT ?_ | refine wM ?_ | refine wS ?_ | refine wP ?_ | refine wJ ?_ | refine wX ?_ | refine wY ?_))
      clear hF
      repeat refine evDone ?_
      try (show AW _ _ _ _ _)
      have hF := hnl
      refine wA (hA := h57b) ?_
      clear hF
      have hF := hnl
      repeat (first | refine wD1 ?_ | refine wD2 ?_ | refine wE1 ?_ | refine wE2 ?_ | (refine wE3 ?_; intro _) | (refine wE4 ?_; intro _) | refine wN ?_ | ((with_reducible show evIs _ (_ :: _) _ _); first | refine wQ ?_ | refine wF ?_ | refine wG ?_ | refine wT ?_ | refine wM ?_ | refine wS ?_ | refine wP ?_ | refine wJ ?_ | refine wX ?_ | refine wY ?_))
      clear hF
      repeat refine evDone ?_
      try (show AW _ _ _ _ _)
      refine evTwo ?_ ?_
      · have hF := hnl
        repeat (first | refine wD1 ?_ | refine wD2 ?_ | refine wE1 ?_ | refine wE2 ?_ | (refine wE3 ?_; intro _) | (refine wE4 ?_; intro _) | refine wN ?_ | ((with_reducible show evIs _ (_ :: _) _ _); first | refine wQ ?_ | refine wF ?_ | refine wG ?_ | refine wT ?_ | refine wM ?_ | refine wS ?_ | refine wP ?_ | refine wJ ?_ | refine wX ?_ | refine wY ?_))
        clear hF
        repeat refine evDone ?_
        try (show AW _ _ _ _ _)
        have hF := hck
        refine wC (hA := h57) ?_
        clear hF
        have hF := hnl
        repeat (first | refine wD1 ?_ | refine wD2 ?_ | refine wE1 ?_ | refine wE2 ?_ | (refine wE3 ?_; intro _) | (refine wE4 ?_; intro _) | refine wN ?_ | ((with_reducible show evIs _ (_ :: _) _ _); first | refine wQ ?_ | refine wF ?_ | refine wG ?_ | refine wT ?_ | refine wM ?_ | refine wS ?_ | refine wP ?_ | refine wJ ?_ | refine wX ?_ | refine wY ?_))
        clear hF
        repeat refine evDone ?_
        try (show AW _ _ _ _ _)
        refine ⟨rfl, ?_⟩
        refine Fit.mk _ _ _ (by simp [hnl, conv2, newEmp, convs_refl, convs, conv]) (by simp [hnl, heapFit, newEmp, conv2s, conv2, convs_refl, convs, conv]) (by intro q hq; first | (simp at hq; done) | (simp at hq; omega) | (simp at hq; simp; omega))
      · have hF := hnl
        repeat (first | refine wD1 ?_ | refine wD2 ?_ | refine wE1 ?_ | refine wE2 ?_ | (refine wE3 ?_; intro _) | (refine wE4 ?_; intro _) | refine wN ?_ | ((with_reducible show evIs _ (_ :: _) _ _); first | refine wQ ?_ | refine wF ?_ | refine wG ?_ | refine wT ?_ | refine wM ?_ | refine wS ?_ | refine wP ?_ | refine wJ ?_ | refine wX ?_ | refine wY ?_))
        clear hF
        repeat refine evDone ?_
        try (show AW _ _ _ _ _)
        have hF := hck
        refine wC (hA := h57) ?_
        clear hF
        have hF := hnl
        repeat (first | refine wD1 ?_ | refine wD2 ?_ | refine wE1 ?_ | refine wE2 ?_ | (refine wE3 ?_; intro _) | (refine wE4 ?_; intro _) | refine wN ?_ | ((with_reducible show evIs _ (_ :: _) _ _); first | refine wQ ?_ | refine wF ?_ | refine wG ?_ | refine wT ?_ | refine wM ?_ | refine wS ?_ | refine wP ?_ | refine wJ ?_ | refine wX ?_ | refine wY ?_))
        clear hF
        repeat refine evDone ?_
        try (show AW _ _ _ _ _)
        refine ⟨rfl, ?_⟩
        refine Fit.mk _ _ _ (by simp [hnl, conv2, newEmp, convs_refl, convs, conv]) (by simp [hnl, heapFit, newEmp, conv2s, conv2, convs_refl, convs, conv]) (by intro q hq; first | (simp at hq; done) | (simp at hq; omega) | (simp at hq; simp; omega))
    · have hF := hnl
      repeat (first | refine wD1 ?_ | refine wD2 ?_ | refine wE1 ?_ | refine wE2 ?_ | (refine wE3 ?_; intro _) | (refine wE4 ?_; intro _) | refine wN ?_ | ((with_reducible show evIs _ (_ :: _) _ _); first | refine wQ ?_ | refine wF ?_ | refine wG ?_ | refine wT ?_ | refine wM ?_ | refine wS ?_ | refine wP ?_ | refine wJ ?_ | refine wX ?_ | refine wY ?_))
      clear hF
      repeat refine evDone ?_
      try (show AW _ _ _ _ _)
      have hF := hnl
      refine wA (hA := h57b) ?_
      clear hF
      have hF := hnl
      repeat (first | refine wD1 ?_ | refine wD2 ?_ | refine wE1 ?_ | refine wE2 ?_ | (refine wE3 ?_; intro _) | (refine wE4 ?_; intro _) | refine wN ?_ | ((with_reducible show evIs _ (_ :: _) _ _); first | refine wQ ?_ | refine wF ?_ | refine wG ?_ | refine wT ?_ | refine wM ?_ | refine wS ?_ | refine wP ?_ | refine wJ ?_ | refine wX ?_ | refine wY ?_))
      clear hF
      repeat refine evDone ?_
      try (show AW _ _ _ _ _)
      have hF := hck
      refine wC (hA := h57) ?_
      clear hF
      have hF := hnl
      repeat (first | refine wD1 ?_ | refine wD2 ?_ | refine wE1 ?_ | refine wE2 ?_ | (refine wE3 ?_; intro _) | (refine wE4 ?_; intro _) | refine wN ?_ | ((with_reducible show evIs _ (_ :: _) _ _); first | refine wQ ?_ | refine wF ?_ | refine wG ?_ | refine wT ?_ | refine wM ?_ | refine wS ?_ | refine wP ?_ | refine wJ ?_ | refine wX ?_ | refine wY ?_))
      clear hF
      repeat refine evDone ?_
      try (show AW _ _ _ _ _)
      refine ⟨rfl, ?_⟩
      refine Fit.mk _ _ _ (by simp [hnl, conv2, newEmp, convs_refl, convs, conv]) (by simp [hnl, heapFit, newEmp, conv2s, conv2, convs_refl, convs, conv]) (by intro q hq; first | (simp at hq; done) | (simp at hq; omega) | (simp at hq; simp; omega))
  rw [← hA1, ← hA3, ← hS]
  obtain ⟨n0, hn0⟩ : ∃ n, n = N + 700 := ⟨_, rfl⟩
  rw [← hn0]
  have hD0 : (N = A1) = False ∧ (N = A3) = False ∧ (N = S) = False ∧ (A1 = N) = False ∧ (A1 = A3) = False ∧ (A1 = S) = False ∧ (A3 = N) = False ∧ (A3 = A1) = False ∧ (A3 = S) = False ∧ (S = N) = False ∧ (S = A1) = False ∧ (S = A3) = False := by
    refine ⟨?_, ?_, ?_, ?_, ?_, ?_, ?_, ?_, ?_, ?_, ?_, ?_⟩ <;> exact eq_false (by omega)
  have hN0 : (∀ k, (N = n0 + k) = False) ∧ (∀ k, (n0 + k = N) = False) ∧ (∀ k, (A1 = n0 + k) = False) ∧ (∀ k, (n0 + k = A1) = False) ∧ (∀ k, (A3 = n0 + k) = False) ∧ (∀ k, (n0 + k = A3) = False) ∧ (∀ k, (S = n0 + k) = False) ∧ (∀ k, (n0 + k = S) = False) ∧ (∀ k, (n0 + k < n0) = False) := by
    refine ⟨?_, ?_, ?_, ?_, ?_, ?_, ?_, ?_, ?_⟩ <;> exact fun k => eq_false (by omega)
  have hL0 : (∀ k, N < n0 + k) ∧ (∀ k, A1 < n0 + k) ∧ (∀ k, A3 < n0 + k) ∧ (∀ k, S < n0 + k) := by
    refine ⟨?_, ?_, ?_, ?_⟩ <;> exact fun k => by omega
  have hB0 : N < n0 ∧ A1 < n0 ∧ A3 < n0 ∧ S < n0 := by refine ⟨?_, ?_, ?_, ?_⟩ <;> omega
  repeat refine AW.seq ?_
  refine AW.reg ?_
  have hF := And.intro (hD0) (hN0)
  repeat (first | refine wD1 ?_ | refine wD2 ?_ | refine wE1 ?_ | refine wE2 ?_ | (refine wE3 ?_; intro _) | (refine wE4 ?_; intro _) | refine wN ?_ | ((with_reducible show evIs _ (_ :: _) _ _); first | refine wQ ?_ | refine wF ?_ | refine wG ?_ | refine wT ?_ | refine wM ?_ | refine wS ?_ | refine wP ?_ | refine wJ ?_ | refine wX ?_ | refine wY ?_))
  clear hF
  repeat refine evDone ?_
  try (show AW _ _ _ _ _)
  repeat refine AW.seq ?_
  refine AW.block ?_
  refine AW.loop (fun g : Nat × Nat × Nat => g.1 ≤ marks.length ∧ g.2.2 < g.2.1 ∧ n0 ≤ g.2.2 ∧ n0 ≤ g.2.1) (fun g => mkS [(1, .ptr N 0 0), (2, .ptr A1 0 0), (3, .ptr A3 0 0), (18, .sl .fro (marks.map Mark.av)), (19, .int .i64 marks.length), (20, .int .i64 g.1)] [(N, ⟨5, true, [.agg [.int .i64 fn, .int .i64 pc, .sl .fro (avs slots), .sl .fro (avs stack), .sl .fro (marks.map Mark.av)]]⟩), (A1, ⟨5, true, [.agg [.int .i64 0, .int .i64 0, .sl .ext [], .sl .ext [], .sl .ext []]]⟩), (A3, ⟨5, true, [.agg [.int .i64 fn, .int .i64 pc, .hdr S 0 slots.length, .sl .fro (avs stack), .hdr g.2.2 0 g.1]]⟩), (S, ⟨5, false, avs slots⟩), (g.2.2, ⟨10, false, pre Mark.av marks g.1⟩)] g.2.1) (fun g => marks.length - g.1) (0, n0 + 20, n0 + 10) ⟨by simp, by simp, by simp, by simp⟩ ?_ ?_
  · refine Fit.mk _ _ _ (by simp [pre_zero, hD0, hN0, hL0, hB0, conv2, newEmp, convs_refl, convs, conv]) (by simp [pre_zero, hD0, hN0, hL0, hB0, heapFit, newEmp, conv2s, conv2, convs_refl, convs, conv]) (by intro q hq; first | (simp at hq; done) | (simp at hq; omega) | (simp at hq; simp; omega))
  · rintro ⟨i, n, r⟩ ⟨hi, hr, hr0, hn00⟩
    dsimp only at hi hr hr0 hn00 ⊢
    have hD : (N = A1) = False ∧ (N = A3) = False ∧ (N = S) = False ∧ (N = r) = False ∧ (A1 = N) = False ∧ (A1 = A3) = False ∧ (A1 = S) = False ∧ (A1 = r) = False ∧ (A3 = N) = False ∧ (A3 = A1) = False ∧ (A3 = S) = False ∧ (A3 = r) = False ∧ (S = N) = False ∧ (S = A1) = False ∧ (S = A3) = False ∧ (S = r) = False ∧ (r = N) = False ∧ (r = A1) = False ∧ (r = A3) = False ∧ (r = S) = False := by
      refine ⟨?_, ?_, ?_, ?_, ?_, ?_, ?_, ?_, ?_, ?_, ?_, ?_, ?_, ?_, ?_, ?_, ?_, ?_, ?_, ?_⟩ <;> exact eq_false (by omega)
    have hN : (∀ k, (N = n + k) = False) ∧ (∀ k, (n + k = N) = False) ∧ (∀ k, (A1 = n + k) = False) ∧ (∀ k, (n + k = A1) = False) ∧ (∀ k, (A3 = n + k) = False) ∧ (∀ k, (n + k = A3) = False) ∧ (∀ k, (S = n + k) = False) ∧ (∀ k, (n + k = S) = False) ∧ (∀ k, (r = n + k) = False) ∧ (∀ k, (n + k = r) = False) ∧ (∀ k, (n + k < n) = False) := by
      refine ⟨?_, ?_, ?_, ?_, ?_, ?_, ?_, ?_, ?_, ?_, ?_⟩ <;> exact fun k => eq_false (by omega)
    have hL : (∀ k, N < n + k) ∧ (∀ k, A1 < n + k) ∧ (∀ k, A3 < n + k) ∧ (∀ k, S < n + k) ∧ (∀ k, r < n + k) := by
      refine ⟨?_, ?_, ?_, ?_, ?_⟩ <;> exact fun k => by omega
    have hB : N < n ∧ A1 < n ∧ A3 < n ∧ S < n ∧ r < n := by refine ⟨?_, ?_, ?_, ?_, ?_⟩ <;> omega
    repeat refine AW.seq ?_
    refine AW.reg ?_
    by_cases hlt : i < marks.length
    · have hF := hlt
      repeat (first | refine wD1 ?_ | refine wD2 ?_ | refine wE1 ?_ | refine wE2 ?_ | (refine wE3 ?_; intro _) | (refine wE4 ?_; intro _) | refine wN ?_ | ((with_reducible show evIs _ (_ :: _) _ _); first | refine wQ ?_ | refine wF ?_ | refine wG ?_ | refine wT ?_ | refine wM ?_ | refine wS ?_ | refine wP ?_ | refine wJ ?_ | refine wX ?_ | refine wY ?_))
      clear hF
      repeat refine evDone ?_
      try (show AW _ _ _ _ _)
      repeat refine AW.seq ?_
      refine AW.condT (by simp []) (by simp []) ?_
      refine AW.skip ?_
      show AW _ _ _ _ _
      refine AW.seq (AW.block ?_)
      obtain ⟨x, hx⟩ : ∃ x, marks[i]? = some x := ⟨_, List.getElem?_eq_getElem hlt⟩
      have he := elem_map (f := Mark.av) hx
      have hpl := pre_len (f := Mark.av) hi
      have hpa := pre_add (f := Mark.av) hx
      have h58 := f58 x (hm2 x (List.mem_of_getElem? hx))
      obtain ⟨kind, target, slot, height, us, tk, tn, tt, ti, ts⟩ := x
      simp only [Mark.av, Mark.am] at he hpa h58
      have hcu := undos_cl us
      have hby : (i + 1) * 136 ≤ 140737488355328 := by omega
      have hby2 : i + 1 ≤ 9223372036854775807 := by omega
      repeat refine AW.seq ?_
      refine AW.reg ?_
      have hF := And.intro (hlt) (And.intro (he) (And.intro (hD) (hN)))
      repeat (first | refine wD1 ?_ | refine wD2 ?_ | refine wE1 ?_ | refine wE2 ?_ | (refine wE3 ?_; intro _) | (refine wE4 ?_; intro _) | refine wN ?_ | ((with_reducible show evIs _ (_ :: _) _ _); first | refine wQ ?_ | refine wF ?_ | refine wG ?_ | refine wT ?_ | refine wM ?_ | refine wS ?_ | refine wP ?_ | refine wJ ?_ | refine wX ?_ | refine wY ?_))
      clear hF
      repeat refine evDone ?_
      try (show AW _ _ _ _ _)
      repeat refine AW.seq ?_
      refine AW.draw ?_
      have hF := And.intro (hD) (hN)
      repeat (first | refine wD1 ?_ | refine wD2 ?_ | refine wE1 ?_ | refine wE2 ?_ | (refine wE3 ?_; intro _) | (refine wE4 ?_; intro _) | refine wN ?_ | ((with_reducible show evIs _ (_ :: _) _ _); first | refine wQ ?_ | refine wF ?_ | refine wG ?_ | refine wT ?_ | refine wM ?_ | refine wS ?_ | refine wP ?_ | refine wJ ?_ | refine wX ?_ | refine wY ?_))
      clear hF
      repeat refine evDone ?_
      try (show AW _ _ _ _ _)
      have hF := And.intro (hcu) (And.intro (hD) (hN))
      refine wC (hA := h58) ?_
      clear hF
      have hF := And.intro (hpl) (And.intro (hby) (And.intro (hby2) (And.intro (hD) (hN))))
      repeat (first | refine wD1 ?_ | refine wD2 ?_ | refine wE1 ?_ | refine wE2 ?_ | (refine wE3 ?_; intro _) | (refine wE4 ?_; intro _) | refine wN ?_ | ((with_reducible show evIs _ (_ :: _) _ _); first | refine wQ ?_ | refine wF ?_ | refine wG ?_ | refine wT ?_ | refine wM ?_ | refine wS ?_ | refine wP ?_ | refine wJ ?_ | refine wX ?_ | refine wY ?_))
      clear hF
      repeat refine evDone ?_
      try (show AW _ _ _ _ _)
      refine AW.reg ?_
      have hw : IntKind.i64.wrap ((i : Int) + 1) = (i : Int) + 1 := i64_in _ ⟨by omega, by omega⟩
      have hF := hw
      repeat (first | refine wD1 ?_ | refine wD2 ?_ | refine wE1 ?_ | refine wE2 ?_ | (refine wE3 ?_; intro _) | (refine wE4 ?_; intro _) | refine wN ?_ | ((with_reducible show evIs _ (_ :: _) _ _); first | refine wQ ?_ | refine wF ?_ | refine wG ?_ | refine wT ?_ | refine wM ?_ | refine wS ?_ | refine wP ?_ | refine wJ ?_ | refine wX ?_ | refine wY ?_))
      clear hF
      repeat refine evDone ?_
      try (show AW _ _ _ _ _)
      refine ⟨(i + 1, n + 60, n + 29), ⟨by dsimp only; omega, by dsimp only; omega, by dsimp only; omega, by dsimp only; omega⟩, by dsimp only; omega, ?_⟩
      refine Fit.mk _ _ _ (by simp [hw, hpl, hpa, hD, hN, hL, hB, conv2, newEmp, convs_refl, convs, conv]) (by simp [hw, hpl, hpa, hD, hN, hL, hB, heapFit, newEmp, conv2s, conv2, convs_refl, convs, conv]) (by intro q hq; first | (simp at hq; done) | (simp at hq; omega) | (simp at hq; simp; omega))
    · have hlt2 : ¬ (i : Int) < marks.length := by omega
      have hii : i = marks.length := by omega
      subst hii
      have hF := And.intro (hlt) (hlt2)
      repeat (first | refine wD1 ?_ | refine wD2 ?_ | refine wE1 ?_ | refine wE2 ?_ | (refine wE3 ?_; intro _) | (refine wE4 ?_; intro _) | refine wN ?_ | ((with_reducible show evIs _ (_ :: _) _ _); first | refine wQ ?_ | refine wF ?_ | refine wG ?_ | refine wT ?_ | refine wM ?_ | refine wS ?_ | refine wP ?_ | refine wJ ?_ | refine wX ?_ | refine wY ?_))
      clear hF
      repeat refine evDone ?_
      try (show AW _ _ _ _ _)
      repeat refine AW.seq ?_
      refine AW.condF (by simp []) (by simp []) ?_
      refine AW.exit ?_
      show AW _ _ _ _ _
      have hpf : pre Mark.av marks marks.length = marks.map Mark.av := pre_full
      repeat refine AW.seq ?_
      refine AW.reg ?_
      have hF := And.intro (hD) (hN)
      repeat (first | refine wD1 ?_ | refine wD2 ?_ | refine wE1 ?_ | refine wE2 ?_ | (refine wE3 ?_; intro _) | (refine wE4 ?_; intro _) | refine wN ?_ | ((with_reducible show evIs _ (_ :: _) _ _); first | refine wQ ?_ | refine wF ?_ | refine wG ?_ | refine wT ?_ | refine wM ?_ | refine wS ?_ | refine wP ?_ | refine wJ ?_ | refine wX ?_ | refine wY ?_))
      clear hF
      repeat refine evDone ?_
      try (show AW _ _ _ _ _)
      refine AW.ret ⟨by simp [resP, a45_res, ARes.op, hD, hN], [(S, ⟨5, false, avs slots⟩), (r, ⟨10, false, marks.map Mark.av⟩)], n, [.agg [.int .i64 fn, .int .i64 pc, .hdr S 0 slots.length, .sl .fro (avs stack), .hdr r 0 marks.length]], ⟨S, r, by omega, by omega, by omega, by omega, by omega, rfl, rfl⟩, by omega, ?_, rfl, by simp, ?_⟩
      · intro p hp
        simp at hp
        rcases hp with rfl | rfl <;> exact .inr (by dsimp only; omega)
      simp only [resV, a45_res, List.map_cons, List.map_nil, ARes.op]
      refine Fit.mk _ _ _ (by simp [hpf, hD, hN, hL, hB, conv2, newEmp, convs_refl, convs, conv]) (by simp [hpf, hD, hN, hL, hB, heapFit, newEmp, conv2s, conv2, convs_refl, convs, conv]) (by intro q hq; first | (simp at hq; done) | (simp at hq; omega) | (simp at hq; simp; omega))
theorem f32 (ls : List Frame) (hok : ∀ f ∈ ls, f.ok) (hb : ls.length * 88 ≤ 140737488355328) : ACall Try.prog 32 [.sl .fro (ls.map Frame.av)] (· = .sl (.own 5) (ls.map Frame.ao)) := by
  refine a32_of (by simp) ?_
  repeat refine AW.seq ?_
  refine AW.reg ?_
  have hF := True.intro
  repeat (first | refine wD1 ?_ | refine wD2 ?_ | refine wE1 ?_ | refine wE2 ?_ | (refine wE3 ?_; intro _) | (refine wE4 ?_; intro _) | refine wN ?_ | ((with_reducible show evIs _ (_ :: _) _ _); first | refine wQ ?_ | refine wF ?_ | refine wG ?_ | refine wT ?_ | refine wM ?_ | refine wS ?_ | refine wP ?_ | refine wJ ?_ | refine wX ?_ | refine wY ?_))
  clear hF
  repeat refine evDone ?_
  try (show AW _ _ _ _ _)
  repeat refine AW.seq ?_
  refine AW.reg ?_
  have hF := True.intro
  repeat (first | refine wD1 ?_ | refine wD2 ?_ | refine wE1 ?_ | refine wE2 ?_ | (refine wE3 ?_; intro _) | (refine wE4 ?_; intro _) | refine wN ?_ | ((with_reducible show evIs _ (_ :: _) _ _); first | refine wQ ?_ | refine wF ?_ | refine wG ?_ | refine wT ?_ | refine wM ?_ | refine wS ?_ | refine wP ?_ | refine wJ ?_ | refine wX ?_ | refine wY ?_))
  clear hF
  repeat refine evDone ?_
  try (show AW _ _ _ _ _)
  repeat refine AW.seq ?_
  refine AW.reg ?_
  have hF := True.intro
  repeat (first | refine wD1 ?_ | refine wD2 ?_ | refine wE1 ?_ | refine wE2 ?_ | (refine wE3 ?_; intro _) | (refine wE4 ?_; intro _) | refine wN ?_ | ((with_reducible show evIs _ (_ :: _) _ _); first | refine wQ ?_ | refine wF ?_ | refine wG ?_ | refine wT ?_ | refine wM ?_ | refine wS ?_ | refine wP ?_ | refine wJ ?_ | refine wX ?_ | refine wY ?_))
  clear hF
  repeat refine evDone ?_
  try (show AW _ _ _ _ _)
  repeat refine AW.seq ?_
  refine AW.block ?_
  refine AW.loop (fun g : Nat × Nat × Nat => g.1 ≤ ls.length ∧ g.2.2 < g.2.1) (fun g => mkS [(3, .hdr g.2.2 0 g.1), (6, .sl .fro (ls.map Frame.av)), (7, .int .i64 ls.length), (8, .int .i64 g.1)] [(g.2.2, ⟨5, false, pre Frame.ao ls g.1⟩)] g.2.1) (fun g => ls.length - g.1) (0, 20, 10) ⟨by simp, by simp⟩ ?_ ?_
  · refine Fit.mk _ _ _ (by simp [pre_zero, conv2, newEmp, convs_refl, convs, conv]) (by simp [pre_zero, heapFit, newEmp, conv2s, conv2, convs_refl, convs, conv]) (by intro q hq; first | (simp at hq; done) | (simp at hq; omega) | (simp at hq; simp; omega))
  · rintro ⟨i, n, r⟩ ⟨hi, hr⟩
    dsimp only at hi hr ⊢
    have hN : (∀ k, (r = n + k) = False) ∧ (∀ k, (n + k = r) = False) ∧ (∀ k, (n + k < n) = False) := by refine ⟨?_, ?_, ?_⟩ <;> exact fun k => eq_false (by omega)
    repeat refine AW.seq ?_
    refine AW.reg ?_
    by_cases hlt : i < ls.length
    · have hF := hlt
      repeat (first | refine wD1 ?_ | refine wD2 ?_ | refine wE1 ?_ | refine wE2 ?_ | (refine wE3 ?_; intro _) | (refine wE4 ?_; intro _) | refine wN ?_ | ((with_reducible show evIs _ (_ :: _) _ _); first | refine wQ ?_ | refine wF ?_ | refine wG ?_ | refine wT ?_ | refine wM ?_ | refine wS ?_ | refine wP ?_ | refine wJ ?_ | refine wX ?_ | refine wY ?_))
      clear hF
      repeat refine evDone ?_
      try (show AW _ _ _ _ _)
      repeat refine AW.seq ?_
      refine AW.condT (by simp []) (by simp []) ?_
      refine AW.skip ?_
      show AW _ _ _ _ _
      refine AW.seq (AW.block ?_)
      obtain ⟨x, hx⟩ : ∃ x, ls[i]? = some x := ⟨_, List.getElem?_eq_getElem hlt⟩
      have he := elem_map (f := Frame.av) hx
      have hpl := pre_len (f := Frame.ao) hi
      have hpa := pre_add (f := Frame.ao) hx
      have hc := f44 (n + 1000) x (hok x (List.mem_of_getElem? hx))
      obtain ⟨fn, pc, slots, stack, marks⟩ := x
      simp only [Frame.av, Frame.ao] at he hpa hc
      have hby : (i + 1) * 88 ≤ 140737488355328 := by omega
      have hby2 : i + 1 ≤ 9223372036854775807 := by omega
      repeat refine AW.seq ?_
      refine AW.reg ?_
      have hF := And.intro (hlt) (And.intro (he) (hN))
      repeat (first | refine wD1 ?_ | refine wD2 ?_ | refine wE1 ?_ | refine wE2 ?_ | (refine wE3 ?_; intro _) | (refine wE4 ?_; intro _) | refine wN ?_ | ((with_reducible show evIs _ (_ :: _) _ _); first | refine wQ ?_ | refine wF ?_ | refine wG ?_ | refine wT ?_ | refine wM ?_ | refine wS ?_ | refine wP ?_ | refine wJ ?_ | refine wX ?_ | refine wY ?_))
      clear hF
      repeat refine evDone ?_
      try (show AW _ _ _ _ _)
      repeat refine AW.seq ?_
      refine AW.reg ?_
      have hF := hN
      repeat (first | refine wD1 ?_ | refine wD2 ?_ | refine wE1 ?_ | refine wE2 ?_ | (refine wE3 ?_; intro _) | (refine wE4 ?_; intro _) | refine wN ?_ | ((with_reducible show evIs _ (_ :: _) _ _); first | refine wQ ?_ | refine wF ?_ | refine wG ?_ | refine wT ?_ | refine wM ?_ | refine wS ?_ | refine wP ?_ | refine wJ ?_ | refine wX ?_ | refine wY ?_))
      clear hF
      repeat refine evDone ?_
      try (show AW _ _ _ _ _)
      have hF := hN
      refine wL (hA := hc) ?_
      clear hF
      rintro _ n' _ ⟨S, M, hSM, hS1, hM1, hS2, hM2, rfl, rfl⟩
      dsimp only at *
      have hE : (S = M) = False ∧ (M = S) = False ∧ (S = r) = False ∧ (r = S) = False ∧ (M = r) = False ∧ (r = M) = False := by
        refine ⟨?_, ?_, ?_, ?_, ?_, ?_⟩ <;> exact eq_false (by omega)
      have hE2 : (S = n + 8) = False ∧ (n + 8 = S) = False ∧ (M = n + 8) = False ∧ (n + 8 = M) = False ∧ (S = n + 14) = False ∧ (n + 14 = S) = False ∧ (M = n + 14) = False ∧ (n + 14 = M) = False ∧ (n + 1000 ≤ n + 14) = False ∧ (S < n) = False ∧ (M < n) = False := by
        refine ⟨?_, ?_, ?_, ?_, ?_, ?_, ?_, ?_, ?_, ?_, ?_⟩ <;> exact eq_false (by omega)
      have hts : (avs slots).take slots.length = avs slots := List.take_of_length_le (by simp)
      have htm : (marks.map Mark.av).take marks.length = marks.map Mark.av := List.take_of_length_le (by simp)
      have hF := And.intro (hts) (And.intro (htm) (And.intro (hpl) (And.intro (hby) (And.intro (hby2) (And.intro (hE) (And.intro (hE2) (hN)))))))
      repeat (first | refine wD1 ?_ | refine wD2 ?_ | refine wE1 ?_ | refine wE2 ?_ | (refine wE3 ?_; intro _) | (refine wE4 ?_; intro _) | refine wN ?_ | ((with_reducible show evIs _ (_ :: _) _ _); first | refine wQ ?_ | refine wF ?_ | refine wG ?_ | refine wT ?_ | refine wM ?_ | refine wS ?_ | refine wP ?_ | refine wJ ?_ | refine wX ?_ | refine wY ?_))
      clear hF
      repeat refine evDone ?_
      try (show AW _ _ _ _ _)
      refine AW.reg ?_
      have hw : IntKind.i64.wrap ((i : Int) + 1) = (i : Int) + 1 := i64_in _ ⟨by omega, by omega⟩
      have hF := hw
      repeat (first | refine wD1 ?_ | refine wD2 ?_ | refine wE1 ?_ | refine wE2 ?_ | (refine wE3 ?_; intro _) | (refine wE4 ?_; intro _) | refine wN ?_ | ((with_reducible show evIs _ (_ :: _) _ _); first | refine wQ ?_ | refine wF ?_ | refine wG ?_ | refine wT ?_ | refine wM ?_ | refine wS ?_ | refine wP ?_ | refine wJ ?_ | refine wX ?_ | refine wY ?_))
      clear hF
      repeat refine evDone ?_
      try (show AW _ _ _ _ _)
      have hn' : n + 14 < n' + 100 ∧ (∀ k, k < n' → k < n' + 100) ∧ n + 8 < n' + 100 := by refine ⟨by omega, fun k hk => by omega, by omega⟩
      refine ⟨(i + 1, n' + 100, n + 14), ⟨by dsimp only; omega, by dsimp only; omega⟩, by dsimp only; omega, ?_⟩
      refine Fit.mk _ _ _ (by simp [hw, hts, htm, hpl, hpa, hE, hE2, hN, hn', conv2, newEmp, convs_refl, convs, conv]) (by simp [hw, hts, htm, hpl, hpa, hE, hE2, hN, hn', heapFit, newEmp, conv2s, conv2, convs_refl, convs, conv]) (by intro q hq; first | (simp at hq; done) | (simp at hq; omega) | (simp at hq; simp; omega))
    · have hlt2 : ¬ (i : Int) < ls.length := by omega
      have hii : i = ls.length := by omega
      subst hii
      have hF := And.intro (hlt) (hlt2)
      repeat (first | refine wD1 ?_ | refine wD2 ?_ | refine wE1 ?_ | refine wE2 ?_ | (refine wE3 ?_; intro _) | (refine wE4 ?_; intro _) | refine wN ?_ | ((with_reducible show evIs _ (_ :: _) _ _); first | refine wQ ?_ | refine wF ?_ | refine wG ?_ | refine wT ?_ | refine wM ?_ | refine wS ?_ | refine wP ?_ | refine wJ ?_ | refine wX ?_ | refine wY ?_))
      clear hF
      repeat refine evDone ?_
      try (show AW _ _ _ _ _)
      repeat refine AW.seq ?_
      refine AW.condF (by simp []) (by simp []) ?_
      refine AW.exit ?_
      show AW _ _ _ _ _
      have hpf : pre Frame.ao ls ls.length = ls.map Frame.ao := pre_full
      have ht : (ls.map Frame.ao).take ls.length = ls.map Frame.ao := List.take_of_length_le (by simp)
      repeat refine AW.seq ?_
      refine AW.reg ?_
      have hF := True.intro
      repeat (first | refine wD1 ?_ | refine wD2 ?_ | refine wE1 ?_ | refine wE2 ?_ | (refine wE3 ?_; intro _) | (refine wE4 ?_; intro _) | refine wN ?_ | ((with_reducible show evIs _ (_ :: _) _ _); first | refine wQ ?_ | refine wF ?_ | refine wG ?_ | refine wT ?_ | refine wM ?_ | refine wS ?_ | refine wP ?_ | refine wJ ?_ | refine wX ?_ | refine wY ?_))
      clear hF
      repeat refine evDone ?_
      try (show AW _ _ _ _ _)
      refine AW.ret (retI rfl ?_)
      simp [hpf, ht, a32_res, resOk, resP, resV, ARes.op, R2s, R2, R1s, R1, closeOk, closeV]
theorem f39 (ls : List Frame) (hok : ∀ f ∈ ls, f.ok) (hb : ls.length * 88 ≤ 140737488355328) : ACall Try.prog 39 [.sl .fro (ls.map Frame.av)] (· = .sl (.own 5) (ls.map Frame.ao)) := by
  refine a39_of (by simp) ?_
  repeat refine AW.seq ?_
  refine AW.reg ?_
  have hF := True.intro
  repeat (first | refine wD1 ?_ | refine wD2 ?_ | refine wE1 ?_ | refine wE2 ?_ | (refine wE3 ?_; intro _) | (refine wE4 ?_; intro _) | refine wN ?_ | ((with_reducible show evIs _ (_ :: _) _ _); first | refine wQ ?_ | refine wF ?_ | refine wG ?_ | refine wT ?_ | refine wM ?_ | refine wS ?_ | refine wP ?_ | refine wJ ?_ | refine wX ?_ | refine wY ?_))
  clear hF
  repeat refine evDone ?_
  try (show AW _ _ _ _ _)
  repeat refine AW.seq ?_
  refine AW.reg ?_
  have hF := True.intro
  repeat (first | refine wD1 ?_ | refine wD2 ?_ | refine wE1 ?_ | refine wE2 ?_ | (refine wE3 ?_; intro _) | (refine wE4 ?_; intro _) | refine wN ?_ | ((with_reducible show evIs _ (_ :: _) _ _); first | refine wQ ?_ | refine wF ?_ | refine wG ?_ | refine wT ?_ | refine wM ?_ | refine wS ?_ | refine wP ?_ | refine wJ ?_ | refine wX ?_ | refine wY ?_))
  clear hF
  repeat refine evDone ?_
  try (show AW _ _ _ _ _)
  repeat refine AW.seq ?_
  refine AW.reg ?_
  have hF := True.intro
  repeat (first | refine wD1 ?_ | refine wD2 ?_ | refine wE1 ?_ | refine wE2 ?_ | (refine wE3 ?_; intro _) | (refine wE4 ?_; intro _) | refine wN ?_ | ((with_reducible show evIs _ (_ :: _) _ _); first | refine wQ ?_ | refine wF ?_ | refine wG ?_ | refine wT ?_ | refine wM ?_ | refine wS ?_ | refine wP ?_ | refine wJ ?_ | refine wX ?_ | refine wY ?_))
  clear hF
  repeat refine evDone ?_
  try (show AW _ _ _ _ _)
  repeat refine AW.seq ?_
  refine AW.block ?_
  refine AW.loop (fun g : Nat × Nat × Nat => g.1 ≤ ls.length ∧ g.2.2 < g.2.1) (fun g => mkS [(3, .hdr g.2.2 0 g.1), (6, .sl .fro (ls.map Frame.av)), (7, .int .i64 ls.length), (8, .int .i64 g.1)] [(g.2.2, ⟨5, false, pre Frame.ao ls g.1⟩)] g.2.1) (fun g => ls.length - g.1) (0, 20, 10) ⟨by simp, by simp⟩ ?_ ?_
  · refine Fit.mk _ _ _ (by simp [pre_zero, conv2, newEmp, convs_refl, convs, conv]) (by simp [pre_zero, heapFit, newEmp, conv2s, conv2, convs_refl, convs, conv]) (by intro q hq; first | (simp at hq; done) | (simp at hq; omega) | (simp at hq; simp; omega))
  · rintro ⟨i, n, r⟩ ⟨hi, hr⟩
    dsimp only at hi hr ⊢
    have hN : (∀ k, (r = n + k) = False) ∧ (∀ k, (n + k = r) = False) ∧ (∀ k, (n + k < n) = False) := by refine ⟨?_, ?_, ?_⟩ <;> exact fun k => eq_false (by omega)
    repeat refine AW.seq ?_
    refine AW.reg ?_
    by_cases hlt : i < ls.length
    · have hF := hlt
      repeat (first | refine wD1 ?_ | refine wD2 ?_ | refine wE1 ?_ | refine wE2 ?_ | (refine wE3 ?_; intro _) | (refine wE4 ?_; intro _) | refine wN ?_ | ((with_reducible show evIs _ (_ :: _) _ _); first | refine wQ ?_ | refine wF ?_ | refine wG ?_ | refine wT ?_ | refine wM ?_ | refine wS ?_ | refine wP ?_ | refine wJ ?_ | refine wX ?_ | refine wY ?_))
      clear hF
      repeat refine evDone ?_
      try (show AW _ _ _ _ _)
      repeat refine AW.seq ?_
      refine AW.condT (by simp []) (by simp []) ?_
      refine AW.skip ?_
      show AW _ _ _ _ _
      refine AW.seq (AW.block ?_)
      obtain ⟨x, hx⟩ : ∃ x, ls[i]? = some x := ⟨_, List.getElem?_eq_getElem hlt⟩
      have he := elem_map (f := Frame.av) hx
      have hpl := pre_len (f := Frame.ao) hi
      have hpa := pre_add (f := Frame.ao) hx
      have hc := f45 (n + 1000) x (hok x (List.mem_of_getElem? hx))
      obtain ⟨fn, pc, slots, stack, marks⟩ := x
      simp only [Frame.av, Frame.ao] at he hpa hc
      have hby : (i + 1) * 88 ≤ 140737488355328 := by omega
      have hby2 : i + 1 ≤ 9223372036854775807 := by omega
      repeat refine AW.seq ?_
      refine AW.reg ?_
      have hF := And.intro (hlt) (And.intro (he) (hN))
      repeat (first | refine wD1 ?_ | refine wD2 ?_ | refine wE1 ?_ | refine wE2 ?_ | (refine wE3 ?_; intro _) | (refine wE4 ?_; intro _) | refine wN ?_ | ((with_reducible show evIs _ (_ :: _) _ _); first | refine wQ ?_ | refine wF ?_ | refine wG ?_ | refine wT ?_ | refine wM ?_ | refine wS ?_ | refine wP ?_ | refine wJ ?_ | refine wX ?_ | refine wY ?_))
      clear hF
      repeat refine evDone ?_
      try (show AW _ _ _ _ _)
      repeat refine AW.seq ?_
      refine AW.reg ?_
      have hF := hN
      repeat (first | refine wD1 ?_ | refine wD2 ?_ | refine wE1 ?_ | refine wE2 ?_ | (refine wE3 ?_; intro _) | (refine wE4 ?_; intro _) | refine wN ?_ | ((with_reducible show evIs _ (_ :: _) _ _); first | refine wQ ?_ | refine wF ?_ | refine wG ?_ | refine wT ?_ | refine wM ?_ | refine wS ?_ | refine wP ?_ | refine wJ ?_ | refine wX ?_ | refine wY ?_))
      clear hF
      repeat refine evDone ?_
      try (show AW _ _ _ _ _)
      have hF := hN
      refine wL (hA := hc) ?_
      clear hF
      rintro _ n' _ ⟨S, M, hSM, hS1, hM1, hS2, hM2, rfl, rfl⟩
      dsimp only at *
      have hE : (S = M) = False ∧ (M = S) = False ∧ (S = r) = False ∧ (r = S) = False ∧ (M = r) = False ∧ (r = M) = False := by
        refine ⟨?_, ?_, ?_, ?_, ?_, ?_⟩ <;> exact eq_false (by omega)
      have hE2 : (S = n + 8) = False ∧ (n + 8 = S) = False ∧ (M = n + 8) = False ∧ (n + 8 = M) = False ∧ (S = n + 14) = False ∧ (n + 14 = S) = False ∧ (M = n + 14) = False ∧ (n + 14 = M) = False ∧ (n + 1000 ≤ n + 14) = False ∧ (S < n) = False ∧ (M < n) = False := by
        refine ⟨?_, ?_, ?_, ?_, ?_, ?_, ?_, ?_, ?_, ?_, ?_⟩ <;> exact eq_false (by omega)
      have hts : (avs slots).take slots.length = avs slots := List.take_of_length_le (by simp)
      have htm : (marks.map Mark.av).take marks.length = marks.map Mark.av := List.take_of_length_le (by simp)
      have hF := And.intro (hts) (And.intro (htm) (And.intro (hpl) (And.intro (hby) (And.intro (hby2) (And.intro (hE) (And.intro (hE2) (hN)))))))
      repeat (first | refine wD1 ?_ | refine wD2 ?_ | refine wE1 ?_ | refine wE2 ?_ | (refine wE3 ?_; intro _) | (refine wE4 ?_; intro _) | refine wN ?_ | ((with_reducible show evIs _ (_ :: _) _ _); first | refine wQ ?_ | refine wF ?_ | refine wG ?_ | refine wT ?_ | refine wM ?_ | refine wS ?_ | refine wP ?_ | refine wJ ?_ | refine wX ?_ | refine wY ?_))
      clear hF
      repeat refine evDone ?_
      try (show AW _ _ _ _ _)
      refine AW.reg ?_
      have hw : IntKind.i64.wrap ((i : Int) + 1) = (i : Int) + 1 := i64_in _ ⟨by omega, by omega⟩
      have hF := hw
      repeat (first | refine wD1 ?_ | refine wD2 ?_ | refine wE1 ?_ | refine wE2 ?_ | (refine wE3 ?_; intro _) | (refine wE4 ?_; intro _) | refine wN ?_ | ((with_reducible show evIs _ (_ :: _) _ _); first | refine wQ ?_ | refine wF ?_ | refine wG ?_ | refine wT ?_ | refine wM ?_ | refine wS ?_ | refine wP ?_ | refine wJ ?_ | refine wX ?_ | refine wY ?_))
      clear hF
      repeat refine evDone ?_
      try (show AW _ _ _ _ _)
      have hn' : n + 14 < n' + 100 ∧ (∀ k, k < n' → k < n' + 100) ∧ n + 8 < n' + 100 := by refine ⟨by omega, fun k hk => by omega, by omega⟩
      refine ⟨(i + 1, n' + 100, n + 14), ⟨by dsimp only; omega, by dsimp only; omega⟩, by dsimp only; omega, ?_⟩
      refine Fit.mk _ _ _ (by simp [hw, hts, htm, hpl, hpa, hE, hE2, hN, hn', conv2, newEmp, convs_refl, convs, conv]) (by simp [hw, hts, htm, hpl, hpa, hE, hE2, hN, hn', heapFit, newEmp, conv2s, conv2, convs_refl, convs, conv]) (by intro q hq; first | (simp at hq; done) | (simp at hq; omega) | (simp at hq; simp; omega))
    · have hlt2 : ¬ (i : Int) < ls.length := by omega
      have hii : i = ls.length := by omega
      subst hii
      have hF := And.intro (hlt) (hlt2)
      repeat (first | refine wD1 ?_ | refine wD2 ?_ | refine wE1 ?_ | refine wE2 ?_ | (refine wE3 ?_; intro _) | (refine wE4 ?_; intro _) | refine wN ?_ | ((with_reducible show evIs _ (_ :: _) _ _); first | refine wQ ?_ | refine wF ?_ | refine wG ?_ | refine wT ?_ | refine wM ?_ | refine wS ?_ | refine wP ?_ | refine wJ ?_ | refine wX ?_ | refine wY ?_))
      clear hF
      repeat refine evDone ?_
      try (show AW _ _ _ _ _)
      repeat refine AW.seq ?_
      refine AW.condF (by simp []) (by simp []) ?_
      refine AW.exit ?_
      show AW _ _ _ _ _
      have hpf : pre Frame.ao ls ls.length = ls.map Frame.ao := pre_full
      have ht : (ls.map Frame.ao).take ls.length = ls.map Frame.ao := List.take_of_length_le (by simp)
      repeat refine AW.seq ?_
      refine AW.reg ?_
      have hF := True.intro
      repeat (first | refine wD1 ?_ | refine wD2 ?_ | refine wE1 ?_ | refine wE2 ?_ | (refine wE3 ?_; intro _) | (refine wE4 ?_; intro _) | refine wN ?_ | ((with_reducible show evIs _ (_ :: _) _ _); first | refine wQ ?_ | refine wF ?_ | refine wG ?_ | refine wT ?_ | refine wM ?_ | refine wS ?_ | refine wP ?_ | refine wJ ?_ | refine wX ?_ | refine wY ?_))
      clear hF
      repeat refine evDone ?_
      try (show AW _ _ _ _ _)
      refine AW.ret (retI rfl ?_)
      simp [hpf, ht, a39_res, resOk, resP, resV, ARes.op, R2s, R2, R1s, R1, closeOk, closeV]
end Go.Proofs.Ytafkaofaioleiaa

set_option linter.unusedSimpArgs false
set_option linter.unusedVariables false
set_option maxHeartbeats 8000000
namespace Go.Proofs.Ytafkaofaioleiaa
open Go Go.Amb Go.IntWalk

theorem f15 (u : Undo) (hok : u.ok) : ACall Try.prog 15 [u.av, u.av] (· = .bool true) := by
  obtain ⟨fn, args⟩ := u
  have h42 := f42 args hok.1 hok.2
  simp only [Undo.av]
  refine a15_of (by simp) ?_
  repeat refine AW.seq ?_
  refine AW.reg ?_
  have hF := True.intro
  repeat (first | refine wD1 ?_ | refine wD2 ?_ | refine wE1 ?_ | refine wE2 ?_ | (refine wE3 ?_; intro _) | (refine wE4 ?_; intro _) | refine wN ?_ | ((with_reducible show evIs _ (_ :: _) _ _); first | refine wQ ?_ | refine wF ?_ | refine wG ?_ | refine wT ?_ | refine wM ?_ | refine wS ?_ | refine wP ?_ | refine wJ ?_ | refine wX ?_ | refine wY ?_))
  clear hF
  repeat refine evDone ?_
  try (show AW _ _ _ _ _)
  repeat refine AW.seq ?_
  refine AW.reg ?_
  have hF := True.intro
  repeat (first | refine wD1 ?_ | refine wD2 ?_ | refine wE1 ?_ | refine wE2 ?_ | (refine wE3 ?_; intro _) | (refine wE4 ?_; intro _) | refine wN ?_ | ((with_reducible show evIs _ (_ :: _) _ _); first | refine wQ ?_ | refine wF ?_ | refine wG ?_ | refine wT ?_ | refine wM ?_ | refine wS ?_ | refine wP ?_ | refine wJ ?_ | refine wX ?_ | refine wY ?_))
  clear hF
  repeat refine evDone ?_
  try (show AW _ _ _ _ _)
  have hF := True.intro
  refine wC (hA := h42) ?_
  clear hF
  have hF := True.intro
  repeat (first | refine wD1 ?_ | refine wD2 ?_ | refine wE1 ?_ | refine wE2 ?_ | (refine wE3 ?_; intro _) | (refine wE4 ?_; intro _) | refine wN ?_ | ((with_reducible show evIs _ (_ :: _) _ _); first | refine wQ ?_ | refine wF ?_ | refine wG ?_ | refine wT ?_ | refine wM ?_ | refine wS ?_ | refine wP ?_ | refine wJ ?_ | refine wX ?_ | refine wY ?_))
  clear hF
  repeat refine evDone ?_
  try (show AW _ _ _ _ _)
  refine AW.ret (retI rfl ?_)
  simp [a15_res, resOk, resP, resV, ARes.op, R2s, R2, R1s, R1, closeOk, closeV]
theorem f46 (m : Mark) (hok : m.ok) : ACall Try.prog 46 [m.av, m.av] (· = .bool true) := by
  obtain ⟨kind, target, slot, height, us, tk, tn, tt, ti, ts⟩ := m
  obtain ⟨hb, hus, hv⟩ := hok
  dsimp only at hb hus hv
  have h19 := f19 _ hv
  simp only [Val.av] at h19
  simp only [Mark.av]
  refine a46_of (by simp) ?_
  repeat refine AW.seq ?_
  refine AW.reg ?_
  have hF := True.intro
  repeat (first | refine wD1 ?_ | refine wD2 ?_ | refine wE1 ?_ | refine wE2 ?_ | (refine wE3 ?_; intro _) | (refine wE4 ?_; intro _) | refine wN ?_ | ((with_reducible show evIs _ (_ :: _) _ _); first | refine wQ ?_ | refine wF ?_ | refine wG ?_ | refine wT ?_ | refine wM ?_ | refine wS ?_ | refine wP ?_ | refine wJ ?_ | refine wX ?_ | refine wY ?_))
  clear hF
  repeat refine evDone ?_
  try (show AW _ _ _ _ _)
  repeat refine AW.seq ?_
  refine AW.reg ?_
  have hF := True.intro
  repeat (first | refine wD1 ?_ | refine wD2 ?_ | refine wE1 ?_ | refine wE2 ?_ | (refine wE3 ?_; intro _) | (refine wE4 ?_; intro _) | refine wN ?_ | ((with_reducible show evIs _ (_ :: _) _ _); first | refine wQ ?_ | refine wF ?_ | refine wG ?_ | refine wT ?_ | refine wM ?_ | refine wS ?_ | refine wP ?_ | refine wJ ?_ | refine wX ?_ | refine wY ?_))
  clear hF
  repeat refine evDone ?_
  try (show AW _ _ _ _ _)
  have hF := True.intro
  refine wC (hA := h19) ?_
  clear hF
  have hF := True.intro
  repeat (first | refine wD1 ?_ | refine wD2 ?_ | refine wE1 ?_ | refine wE2 ?_ | (refine wE3 ?_; intro _) | (refine wE4 ?_; intro _) | refine wN ?_ | ((with_reducible show evIs _ (_ :: _) _ _); first | refine wQ ?_ | refine wF ?_ | refine wG ?_ | refine wT ?_ | refine wM ?_ | refine wS ?_ | refine wP ?_ | refine wJ ?_ | refine wX ?_ | refine wY ?_))
  clear hF
  repeat refine evDone ?_
  try (show AW _ _ _ _ _)
  repeat refine AW.seq ?_
  refine AW.condF (by simp []) (by simp []) ?_
  refine AW.skip ?_
  show AW _ _ _ _ _
  repeat refine AW.seq ?_
  refine AW.reg ?_
  have hF := True.intro
  repeat (first | refine wD1 ?_ | refine wD2 ?_ | refine wE1 ?_ | refine wE2 ?_ | (refine wE3 ?_; intro _) | (refine wE4 ?_; intro _) | refine wN ?_ | ((with_reducible show evIs _ (_ :: _) _ _); first | refine wQ ?_ | refine wF ?_ | refine wG ?_ | refine wT ?_ | refine wM ?_ | refine wS ?_ | refine wP ?_ | refine wJ ?_ | refine wX ?_ | refine wY ?_))
  clear hF
  repeat refine evDone ?_
  try (show AW _ _ _ _ _)
  repeat refine AW.seq ?_
  refine AW.block ?_
  refine AW.loop (fun i : Nat => i ≤ us.length) (fun i => mkS [(2, .ptr 0 0 0), (3, .ptr 1 0 0), (51, .int .i64 us.length), (52, .int .i64 i)] [(0, ⟨10, true, [.agg [.int .i64 kind, .int .i64 target, .int .i64 slot, .int .i64 height, .sl .fro (us.map Undo.av), .int .i64 tk, .int .i64 tn, .str tt, .sl .fro (avs ti), .sl .fro (ts.map .str)]]⟩), (1, ⟨10, true, [.agg [.int .i64 kind, .int .i64 target, .int .i64 slot, .int .i64 height, .sl .fro (us.map Undo.av), .int .i64 tk, .int .i64 tn, .str tt, .sl .fro (avs ti), .sl .fro (ts.map .str)]]⟩)] 30) (fun i => us.length - i) 0 (by simp) ?_ ?_
  · refine Fit.mk _ _ _ (by simp [hb, conv2, newEmp, convs_refl, convs, conv]) (by simp [hb, heapFit, newEmp, conv2s, conv2, convs_refl, convs, conv]) (by intro q hq; first | (simp at hq; done) | (simp at hq; omega) | (simp at hq; simp; omega))
  · intro i hi

    repeat refine AW.seq ?_
    refine AW.reg ?_
    by_cases hlt : i < us.length
    · have hF := hlt
      repeat (first | refine wD1 ?_ | refine wD2 ?_ | refine wE1 ?_ | refine wE2 ?_ | (refine wE3 ?_; intro _) | (refine wE4 ?_; intro _) | refine wN ?_ | ((with_reducible show evIs _ (_ :: _) _ _); first | refine wQ ?_ | refine wF ?_ | refine wG ?_ | refine wT ?_ | refine wM ?_ | refine wS ?_ | refine wP ?_ | refine wJ ?_ | refine wX ?_ | refine wY ?_))
      clear hF
      repeat refine evDone ?_
      try (show AW _ _ _ _ _)
      repeat refine AW.seq ?_
      refine AW.condT (by simp []) (by simp []) ?_
      refine AW.skip ?_
      show AW _ _ _ _ _
      refine AW.seq (AW.block ?_)
      have hx : ∃ x, us[i]? = some x := ⟨_, List.getElem?_eq_getElem hlt⟩
      obtain ⟨x, hx⟩ := hx
      have he := elem_map (f := Undo.av) hx
      have h15 := f15 x (hus x (List.mem_of_getElem? hx))
      obtain ⟨fn, args⟩ := x
      simp only [Undo.av] at he h15
      repeat refine AW.seq ?_
      refine AW.reg ?_
      have hF := True.intro
      repeat (first | refine wD1 ?_ | refine wD2 ?_ | refine wE1 ?_ | refine wE2 ?_ | (refine wE3 ?_; intro _) | (refine wE4 ?_; intro _) | refine wN ?_ | ((with_reducible show evIs _ (_ :: _) _ _); first | refine wQ ?_ | refine wF ?_ | refine wG ?_ | refine wT ?_ | refine wM ?_ | refine wS ?_ | refine wP ?_ | refine wJ ?_ | refine wX ?_ | refine wY ?_))
      clear hF
      repeat refine evDone ?_
      try (show AW _ _ _ _ _)
      repeat refine AW.seq ?_
      refine AW.draw ?_
      have hF := And.intro (hlt) (he)
      repeat (first | refine wD1 ?_ | refine wD2 ?_ | refine wE1 ?_ | refine wE2 ?_ | (refine wE3 ?_; intro _) | (refine wE4 ?_; intro _) | refine wN ?_ | ((with_reducible show evIs _ (_ :: _) _ _); first | refine wQ ?_ | refine wF ?_ | refine wG ?_ | refine wT ?_ | refine wM ?_ | refine wS ?_ | refine wP ?_ | refine wJ ?_ | refine wX ?_ | refine wY ?_))
      clear hF
      repeat refine evDone ?_
      try (show AW _ _ _ _ _)
      have hF := True.intro
      refine wC (hA := h15) ?_
      clear hF
      have hF := True.intro
      repeat (first | refine wD1 ?_ | refine wD2 ?_ | refine wE1 ?_ | refine wE2 ?_ | (refine wE3 ?_; intro _) | (refine wE4 ?_; intro _) | refine wN ?_ | ((with_reducible show evIs _ (_ :: _) _ _); first | refine wQ ?_ | refine wF ?_ | refine wG ?_ | refine wT ?_ | refine wM ?_ | refine wS ?_ | refine wP ?_ | refine wJ ?_ | refine wX ?_ | refine wY ?_))
      clear hF
      repeat refine evDone ?_
      try (show AW _ _ _ _ _)
      repeat refine AW.seq ?_
      refine AW.condF (by simp []) (by simp []) ?_
      refine AW.skip ?_
      show AW _ _ _ _ _
      refine AW.reg ?_
      have hw : IntKind.i64.wrap ((i : Int) + 1) = (i : Int) + 1 := i64_in _ ⟨by omega, by omega⟩
      have hF := hw
      repeat (first | refine wD1 ?_ | refine wD2 ?_ | refine wE1 ?_ | refine wE2 ?_ | (refine wE3 ?_; intro _) | (refine wE4 ?_; intro _) | refine wN ?_ | ((with_reducible show evIs _ (_ :: _) _ _); first | refine wQ ?_ | refine wF ?_ | refine wG ?_ | refine wT ?_ | refine wM ?_ | refine wS ?_ | refine wP ?_ | refine wJ ?_ | refine wX ?_ | refine wY ?_))
      clear hF
      repeat refine evDone ?_
      try (show AW _ _ _ _ _)
      refine ⟨i + 1, by omega, by omega, ?_⟩
      refine Fit.mk _ _ _ (by simp [hw, conv2, newEmp, convs_refl, convs, conv]) (by simp [hw, heapFit, newEmp, conv2s, conv2, convs_refl, convs, conv]) (by intro q hq; first | (simp at hq; done) | (simp at hq; omega) | (simp at hq; simp; omega))
    · have hlt2 : ¬ (i : Int) < us.length := by omega
      have hF := And.intro (hlt) (hlt2)
      repeat (first | refine wD1 ?_ | refine wD2 ?_ | refine wE1 ?_ | refine wE2 ?_ | (refine wE3 ?_; intro _) | (refine wE4 ?_; intro _) | refine wN ?_ | ((with_reducible show evIs _ (_ :: _) _ _); first | refine wQ ?_ | refine wF ?_ | refine wG ?_ | refine wT ?_ | refine wM ?_ | refine wS ?_ | refine wP ?_ | refine wJ ?_ | refine wX ?_ | refine wY ?_))
      clear hF
      repeat refine evDone ?_
      try (show AW _ _ _ _ _)
      repeat refine AW.seq ?_
      refine AW.condF (by simp []) (by simp []) ?_
      refine AW.exit ?_
      show AW _ _ _ _ _
      repeat refine AW.seq ?_
      refine AW.reg ?_
      have hF := True.intro
      repeat (first | refine wD1 ?_ | refine wD2 ?_ | refine wE1 ?_ | refine wE2 ?_ | (refine wE3 ?_; intro _) | (refine wE4 ?_; intro _) | refine wN ?_ | ((with_reducible show evIs _ (_ :: _) _ _); first | refine wQ ?_ | refine wF ?_ | refine wG ?_ | refine wT ?_ | refine wM ?_ | refine wS ?_ | refine wP ?_ | refine wJ ?_ | refine wX ?_ | refine wY ?_))
      clear hF
      repeat refine evDone ?_
      try (show AW _ _ _ _ _)
      refine AW.ret (retI rfl ?_)
      simp [a46_res, resOk, resP, resV, ARes.op, R2s, R2, R1s, R1, closeOk, closeV]
theorem f26 (f : Frame) (hok : f.ok) : ACall Try.prog 26 [f.av, f.av] (· = .bool true) := by
  obtain ⟨fn, pc, slots, stack, marks⟩ := f
  obtain ⟨hs1, hs2, hs3, hs4, hm1, hm2⟩ := hok
  dsimp only at hs1 hs2 hs3 hs4 hm1 hm2
  have ha := f42 slots hs1 hs2
  have hb := f42 stack hs3 hs4
  simp only [Frame.av]
  refine a26_of (by simp) ?_
  repeat refine AW.seq ?_
  refine AW.reg ?_
  have hF := True.intro
  repeat (first | refine wD1 ?_ | refine wD2 ?_ | refine wE1 ?_ | refine wE2 ?_ | (refine wE3 ?_; intro _) | (refine wE4 ?_; intro _) | refine wN ?_ | ((with_reducible show evIs _ (_ :: _) _ _); first | refine wQ ?_ | refine wF ?_ | refine wG ?_ | refine wT ?_ | refine wM ?_ | refine wS ?_ | refine wP ?_ | refine wJ ?_ | refine wX ?_ | refine wY ?_))
  clear hF
  repeat refine evDone ?_
  try (show AW _ _ _ _ _)
  repeat refine AW.seq ?_
  refine AW.reg ?_
  have hF := True.intro
  repeat (first | refine wD1 ?_ | refine wD2 ?_ | refine wE1 ?_ | refine wE2 ?_ | (refine wE3 ?_; intro _) | (refine wE4 ?_; intro _) | refine wN ?_ | ((with_reducible show evIs _ (_ :: _) _ _); first | refine wQ ?_ | refine wF ?_ | refine wG ?_ | refine wT ?_ | refine wM ?_ | refine wS ?_ | refine wP ?_ | refine wJ ?_ | refine wX ?_ | refine wY ?_))
  clear hF
  repeat refine evDone ?_
  try (show AW _ _ _ _ _)
  have hF := True.intro
  refine wC (hA := ha) ?_
  clear hF
  have hF := True.intro
  repeat (first | refine wD1 ?_ | refine wD2 ?_ | refine wE1 ?_ | refine wE2 ?_ | (refine wE3 ?_; intro _) | (refine wE4 ?_; intro _) | refine wN ?_ | ((with_reducible show evIs _ (_ :: _) _ _); first | refine wQ ?_ | refine wF ?_ | refine wG ?_ | refine wT ?_ | refine wM ?_ | refine wS ?_ | refine wP ?_ | refine wJ ?_ | refine wX ?_ | refine wY ?_))
  clear hF
  repeat refine evDone ?_
  try (show AW _ _ _ _ _)
  have hF := True.intro
  refine wC (hA := hb) ?_
  clear hF
  have hF := True.intro
  repeat (first | refine wD1 ?_ | refine wD2 ?_ | refine wE1 ?_ | refine wE2 ?_ | (refine wE3 ?_; intro _) | (refine wE4 ?_; intro _) | refine wN ?_ | ((with_reducible show evIs _ (_ :: _) _ _); first | refine wQ ?_ | refine wF ?_ | refine wG ?_ | refine wT ?_ | refine wM ?_ | refine wS ?_ | refine wP ?_ | refine wJ ?_ | refine wX ?_ | refine wY ?_))
  clear hF
  repeat refine evDone ?_
  try (show AW _ _ _ _ _)
  repeat refine AW.seq ?_
  refine AW.condF (by simp []) (by simp []) ?_
  refine AW.skip ?_
  show AW _ _ _ _ _
  repeat refine AW.seq ?_
  refine AW.reg ?_
  have hF := True.intro
  repeat (first | refine wD1 ?_ | refine wD2 ?_ | refine wE1 ?_ | refine wE2 ?_ | (refine wE3 ?_; intro _) | (refine wE4 ?_; intro _) | refine wN ?_ | ((with_reducible show evIs _ (_ :: _) _ _); first | refine wQ ?_ | refine wF ?_ | refine wG ?_ | refine wT ?_ | refine wM ?_ | refine wS ?_ | refine wP ?_ | refine wJ ?_ | refine wX ?_ | refine wY ?_))
  clear hF
  repeat refine evDone ?_
  try (show AW _ _ _ _ _)
  repeat refine AW.seq ?_
  refine AW.block ?_
  refine AW.loop (fun i : Nat => i ≤ marks.length) (fun i => mkS [(2, .ptr 0 0 0), (3, .ptr 1 0 0), (45, .int .i64 marks.length), (46, .int .i64 i)] [(0, ⟨5, true, [.agg [.int .i64 fn, .int .i64 pc, .sl .fro (avs slots), .sl .fro (avs stack), .sl .fro (marks.map Mark.av)]]⟩), (1, ⟨5, true, [.agg [.int .i64 fn, .int .i64 pc, .sl .fro (avs slots), .sl .fro (avs stack), .sl .fro (marks.map Mark.av)]]⟩)] 30) (fun i => marks.length - i) 0 (by simp) ?_ ?_
  · refine Fit.mk _ _ _ (by simp [hm1, conv2, newEmp, convs_refl, convs, conv]) (by simp [hm1, heapFit, newEmp, conv2s, conv2, convs_refl, convs, conv]) (by intro q hq; first | (simp at hq; done) | (simp at hq; omega) | (simp at hq; simp; omega))
  · intro i hi

    repeat refine AW.seq ?_
    refine AW.reg ?_
    by_cases hlt : i < marks.length
    · have hF := hlt
      repeat (first | refine wD1 ?_ | refine wD2 ?_ | refine wE1 ?_ | refine wE2 ?_ | (refine wE3 ?_; intro _) | (refine wE4 ?_; intro _) | refine wN ?_ | ((with_reducible show evIs _ (_ :: _) _ _); first | refine wQ ?_ | refine wF ?_ | refine wG ?_ | refine wT ?_ | refine wM ?_ | refine wS ?_ | refine wP ?_ | refine wJ ?_ | refine wX ?_ | refine wY ?_))
      clear hF
      repeat refine evDone ?_
      try (show AW _ _ _ _ _)
      repeat refine AW.seq ?_
      refine AW.condT (by simp []) (by simp []) ?_
      refine AW.skip ?_
      show AW _ _ _ _ _
      refine AW.seq (AW.block ?_)
      have hx : ∃ x, marks[i]? = some x := ⟨_, List.getElem?_eq_getElem hlt⟩
      obtain ⟨x, hx⟩ := hx
      have he := elem_map (f := Mark.av) hx
      have h46 := f46 x (hm2 x (List.mem_of_getElem? hx))
      obtain ⟨kind, target, slot, height, us, tk, tn, tt, ti, ts⟩ := x
      simp only [Mark.av] at he h46
      repeat refine AW.seq ?_
      refine AW.reg ?_
      have hF := True.intro
      repeat (first | refine wD1 ?_ | refine wD2 ?_ | refine wE1 ?_ | refine wE2 ?_ | (refine wE3 ?_; intro _) | (refine wE4 ?_; intro _) | refine wN ?_ | ((with_reducible show evIs _ (_ :: _) _ _); first | refine wQ ?_ | refine wF ?_ | refine wG ?_ | refine wT ?_ | refine wM ?_ | refine wS ?_ | refine wP ?_ | refine wJ ?_ | refine wX ?_ | refine wY ?_))
      clear hF
      repeat refine evDone ?_
      try (show AW _ _ _ _ _)
      repeat refine AW.seq ?_
      refine AW.draw ?_
      have hF := And.intro (hlt) (he)
      repeat (first | refine wD1 ?_ | refine wD2 ?_ | refine wE1 ?_ | refine wE2 ?_ | (refine wE3 ?_; intro _) | (refine wE4 ?_; intro _) | refine wN ?_ | ((with_reducible show evIs _ (_ :: _) _ _); first | refine wQ ?_ | refine wF ?_ | refine wG ?_ | refine wT ?_ | refine wM ?_ | refine wS ?_ | refine wP ?_ | refine wJ ?_ | refine wX ?_ | refine wY ?_))
      clear hF
      repeat refine evDone ?_
      try (show AW _ _ _ _ _)
      have hF := True.intro
      refine wC (hA := h46) ?_
      clear hF
      have hF := True.intro
      repeat (first | refine wD1 ?_ | refine wD2 ?_ | refine wE1 ?_ | refine wE2 ?_ | (refine wE3 ?_; intro _) | (refine wE4 ?_; intro _) | refine wN ?_ | ((with_reducible show evIs _ (_ :: _) _ _); first | refine wQ ?_ | refine wF ?_ | refine wG ?_ | refine wT ?_ | refine wM ?_ | refine wS ?_ | refine wP ?_ | refine wJ ?_ | refine wX ?_ | refine wY ?_))
      clear hF
      repeat refine evDone ?_
      try (show AW _ _ _ _ _)
      repeat refine AW.seq ?_
      refine AW.condF (by simp []) (by simp []) ?_
      refine AW.skip ?_
      show AW _ _ _ _ _
      refine AW.reg ?_
      have hw : IntKind.i64.wrap ((i : Int) + 1) = (i : Int) + 1 := i64_in _ ⟨by omega, by omega⟩
      have hF := hw
      repeat (first | refine wD1 ?_ | refine wD2 ?_ | refine wE1 ?_ | refine wE2 ?_ | (refine wE3 ?_; intro _) | (refine wE4 ?_; intro _) | refine wN ?_ | ((with_reducible show evIs _ (_ :: _) _ _); first | refine wQ ?_ | refine wF ?_ | refine wG ?_ | refine wT ?_ | refine wM ?_ | refine wS ?_ | refine wP ?_ | refine wJ ?_ | refine wX ?_ | refine wY ?_))
      clear hF
      repeat refine evDone ?_
      try (show AW _ _ _ _ _)
      refine ⟨i + 1, by omega, by omega, ?_⟩
      refine Fit.mk _ _ _ (by simp [hw, conv2, newEmp, convs_refl, convs, conv]) (by simp [hw, heapFit, newEmp, conv2s, conv2, convs_refl, convs, conv]) (by intro q hq; first | (simp at hq; done) | (simp at hq; omega) | (simp at hq; simp; omega))
    · have hlt2 : ¬ (i : Int) < marks.length := by omega
      have hF := And.intro (hlt) (hlt2)
      repeat (first | refine wD1 ?_ | refine wD2 ?_ | refine wE1 ?_ | refine wE2 ?_ | (refine wE3 ?_; intro _) | (refine wE4 ?_; intro _) | refine wN ?_ | ((with_reducible show evIs _ (_ :: _) _ _); first | refine wQ ?_ | refine wF ?_ | refine wG ?_ | refine wT ?_ | refine wM ?_ | refine wS ?_ | refine wP ?_ | refine wJ ?_ | refine wX ?_ | refine wY ?_))
      clear hF
      repeat refine evDone ?_
      try (show AW _ _ _ _ _)
      repeat refine AW.seq ?_
      refine AW.condF (by simp []) (by simp []) ?_
      refine AW.exit ?_
      show AW _ _ _ _ _
      repeat refine AW.seq ?_
      refine AW.reg ?_
      have hF := True.intro
      repeat (first | refine wD1 ?_ | refine wD2 ?_ | refine wE1 ?_ | refine wE2 ?_ | (refine wE3 ?_; intro _) | (refine wE4 ?_; intro _) | refine wN ?_ | ((with_reducible show evIs _ (_ :: _) _ _); first | refine wQ ?_ | refine wF ?_ | refine wG ?_ | refine wT ?_ | refine wM ?_ | refine wS ?_ | refine wP ?_ | refine wJ ?_ | refine wX ?_ | refine wY ?_))
      clear hF
      repeat refine evDone ?_
      try (show AW _ _ _ _ _)
      refine AW.ret (retI rfl ?_)
      simp [a26_res, resOk, resP, resV, ARes.op, R2s, R2, R1s, R1, closeOk, closeV]
theorem f16 (ls : List Frame) (hok : ∀ f ∈ ls, f.ok) (hb : ls.length * 88 ≤ 140737488355328) : ACall Try.prog 16 [.sl .fro (ls.map Frame.av), .sl .fro (ls.map Frame.av)] (· = .bool true) := by
  refine a16_of (by simp) ?_
  repeat refine AW.seq ?_
  refine AW.reg ?_
  have hF := True.intro
  repeat (first | refine wD1 ?_ | refine wD2 ?_ | refine wE1 ?_ | refine wE2 ?_ | (refine wE3 ?_; intro _) | (refine wE4 ?_; intro _) | refine wN ?_ | ((with_reducible show evIs _ (_ :: _) _ _); first | refine wQ ?_ | refine wF ?_ | refine wG ?_ | refine wT ?_ | refine wM ?_ | refine wS ?_ | refine wP ?_ | refine wJ ?_ | refine wX ?_ | refine wY ?_))
  clear hF
  repeat refine evDone ?_
  try (show AW _ _ _ _ _)
  repeat refine AW.seq ?_
  refine AW.reg ?_
  have hF := True.intro
  repeat (first | refine wD1 ?_ | refine wD2 ?_ | refine wE1 ?_ | refine wE2 ?_ | (refine wE3 ?_; intro _) | (refine wE4 ?_; intro _) | refine wN ?_ | ((with_reducible show evIs _ (_ :: _) _ _); first | refine wQ ?_ | refine wF ?_ | refine wG ?_ | refine wT ?_ | refine wM ?_ | refine wS ?_ | refine wP ?_ | refine wJ ?_ | refine wX ?_ | refine wY ?_))
  clear hF
  repeat refine evDone ?_
  try (show AW _ _ _ _ _)
  repeat refine AW.seq ?_
  refine AW.condF (by simp []) (by simp []) ?_
  refine AW.skip ?_
  show AW _ _ _ _ _
  repeat refine AW.seq ?_
  refine AW.reg ?_
  have hF := True.intro
  repeat (first | refine wD1 ?_ | refine wD2 ?_ | refine wE1 ?_ | refine wE2 ?_ | (refine wE3 ?_; intro _) | (refine wE4 ?_; intro _) | refine wN ?_ | ((with_reducible show evIs _ (_ :: _) _ _); first | refine wQ ?_ | refine wF ?_ | refine wG ?_ | refine wT ?_ | refine wM ?_ | refine wS ?_ | refine wP ?_ | refine wJ ?_ | refine wX ?_ | refine wY ?_))
  clear hF
  repeat refine evDone ?_
  try (show AW _ _ _ _ _)
  repeat refine AW.seq ?_
  refine AW.block ?_
  refine AW.loop (fun i : Nat => i ≤ ls.length) (fun i => mkS [(0, .sl .fro (ls.map Frame.av)), (1, .sl .fro (ls.map Frame.av)), (12, .int .i64 ls.length), (13, .int .i64 i)] [] 30) (fun i => ls.length - i) 0 (by simp) ?_ ?_
  · refine Fit.mk _ _ _ (by simp [hb, conv2, newEmp, convs_refl, convs, conv]) (by simp [hb, heapFit, newEmp, conv2s, conv2, convs_refl, convs, conv]) (by intro q hq; first | (simp at hq; done) | (simp at hq; omega) | (simp at hq; simp; omega))
  · intro i hi

    repeat refine AW.seq ?_
    refine AW.reg ?_
    by_cases hlt : i < ls.length
    · have hF := hlt
      repeat (first | refine wD1 ?_ | refine wD2 ?_ | refine wE1 ?_ | refine wE2 ?_ | (refine wE3 ?_; intro _) | (refine wE4 ?_; intro _) | refine wN ?_ | ((with_reducible show evIs _ (_ :: _) _ _); first | refine wQ ?_ | refine wF ?_ | refine wG ?_ | refine wT ?_ | refine wM ?_ | refine wS ?_ | refine wP ?_ | refine wJ ?_ | refine wX ?_ | refine wY ?_))
      clear hF
      repeat refine evDone ?_
      try (show AW _ _ _ _ _)
      repeat refine AW.seq ?_
      refine AW.condT (by simp []) (by simp []) ?_
      refine AW.skip ?_
      show AW _ _ _ _ _
      refine AW.seq (AW.block ?_)
      have hx : ∃ x, ls[i]? = some x := ⟨_, List.getElem?_eq_getElem hlt⟩
      obtain ⟨x, hx⟩ := hx
      have he := elem_map (f := Frame.av) hx
      have h26 := f26 x (hok x (List.mem_of_getElem? hx))
      obtain ⟨fn, pc, slots, stack, marks⟩ := x
      simp only [Frame.av] at he h26
      repeat refine AW.seq ?_
      refine AW.reg ?_
      have hF := True.intro
      repeat (first | refine wD1 ?_ | refine wD2 ?_ | refine wE1 ?_ | refine wE2 ?_ | (refine wE3 ?_; intro _) | (refine wE4 ?_; intro _) | refine wN ?_ | ((with_reducible show evIs _ (_ :: _) _ _); first | refine wQ ?_ | refine wF ?_ | refine wG ?_ | refine wT ?_ | refine wM ?_ | refine wS ?_ | refine wP ?_ | refine wJ ?_ | refine wX ?_ | refine wY ?_))
      clear hF
      repeat refine evDone ?_
      try (show AW _ _ _ _ _)
      repeat refine AW.seq ?_
      refine AW.draw ?_
      have hF := And.intro (hlt) (he)
      repeat (first | refine wD1 ?_ | refine wD2 ?_ | refine wE1 ?_ | refine wE2 ?_ | (refine wE3 ?_; intro _) | (refine wE4 ?_; intro _) | refine wN ?_ | ((with_reducible show evIs _ (_ :: _) _ _); first | refine wQ ?_ | refine wF ?_ | refine wG ?_ | refine wT ?_ | refine wM ?_ | refine wS ?_ | refine wP ?_ | refine wJ ?_ | refine wX ?_ | refine wY ?_))
      clear hF
      repeat refine evDone ?_
      try (show AW _ _ _ _ _)
      have hF := True.intro
      refine wC (hA := h26) ?_
      clear hF
      have hF := True.intro
      repeat (first | refine wD1 ?_ | refine wD2 ?_ | refine wE1 ?_ | refine wE2 ?_ | (refine wE3 ?_; intro _) | (refine wE4 ?_; intro _) | refine wN ?_ | ((with_reducible show evIs _ (_ :: _) _ _); first | refine wQ ?_ | refine wF ?_ | refine wG ?_ | refine wT ?_ | refine wM ?_ | refine wS ?_ | refine wP ?_ | refine wJ ?_ | refine wX ?_ | refine wY ?_))
      clear hF
      repeat refine evDone ?_
      try (show AW _ _ _ _ _)
      repeat refine AW.seq ?_
      refine AW.condF (by simp []) (by simp []) ?_
      refine AW.skip ?_
      show AW _ _ _ _ _
      refine AW.reg ?_
      have hw : IntKind.i64.wrap ((i : Int) + 1) = (i : Int) + 1 := i64_in _ ⟨by omega, by omega⟩
      have hF := hw
      repeat (first | refine wD1 ?_ | refine wD2 ?_ | refine wE1 ?_ | refine wE2 ?_ | (refine wE3 ?_; intro _) | (refine wE4 ?_; intro _) | refine wN ?_ | ((with_reducible show evIs _ (_ :: _) _ _); first | refine wQ ?_ | refine wF ?_ | refine wG ?_ | refine wT ?_ | refine wM ?_ | refine wS ?_ | refine wP ?_ | refine wJ ?_ | refine wX ?_ | refine wY ?_))
      clear hF
      repeat refine evDone ?_
      try (show AW _ _ _ _ _)
      refine ⟨i + 1, by omega, by omega, ?_⟩
      refine Fit.mk _ _ _ (by simp [hw, conv2, newEmp, convs_refl, convs, conv]) (by simp [hw, heapFit, newEmp, conv2s, conv2, convs_refl, convs, conv]) (by intro q hq; first | (simp at hq; done) | (simp at hq; omega) | (simp at hq; simp; omega))
    · have hlt2 : ¬ (i : Int) < ls.length := by omega
      have hF := And.intro (hlt) (hlt2)
      repeat (first | refine wD1 ?_ | refine wD2 ?_ | refine wE1 ?_ | refine wE2 ?_ | (refine wE3 ?_; intro _) | (refine wE4 ?_; intro _) | refine wN ?_ | ((with_reducible show evIs _ (_ :: _) _ _); first | refine wQ ?_ | refine wF ?_ | refine wG ?_ | refine wT ?_ | refine wM ?_ | refine wS ?_ | refine wP ?_ | refine wJ ?_ | refine wX ?_ | refine wY ?_))
      clear hF
      repeat refine evDone ?_
      try (show AW _ _ _ _ _)
      repeat refine AW.seq ?_
      refine AW.condF (by simp []) (by simp []) ?_
      refine AW.exit ?_
      show AW _ _ _ _ _
      repeat refine AW.seq ?_
      refine AW.reg ?_
      have hF := True.intro
      repeat (first | refine wD1 ?_ | refine wD2 ?_ | refine wE1 ?_ | refine wE2 ?_ | (refine wE3 ?_; intro _) | (refine wE4 ?_; intro _) | refine wN ?_ | ((with_reducible show evIs _ (_ :: _) _ _); first | refine wQ ?_ | refine wF ?_ | refine wG ?_ | refine wT ?_ | refine wM ?_ | refine wS ?_ | refine wP ?_ | refine wJ ?_ | refine wX ?_ | refine wY ?_))
      clear hF
      repeat refine evDone ?_
      try (show AW _ _ _ _ _)
      refine AW.ret (retI rfl ?_)
      simp [a16_res, resOk, resP, resV, ARes.op, R2s, R2, R1s, R1, closeOk, closeV]
theorem f31_step (m : Nat) (ih : ∀ v : Val, v.sz < m → v.okv → ∀ a, ACall Try.prog 31 [v.av, .int .i64 a] (fun r => ∃ b, r = .int .i64 b ∧ True)) (v : Val) (hm : v.sz ≤ m) (hok : v.okv) (a : Int) : ACall Try.prog 31 [v.av, .int .i64 a] (fun r => ∃ b, r = .int .i64 b ∧ True) := by
  obtain ⟨k, n, t, is, ks⟩ := v
  simp only [Val.av, Val.sz, Val.okv] at hm hok ⊢
  have hk0 : 0 ≤ is.length := by omega
  refine a31_of (by simp) ?_
  repeat refine AW.seq ?_
  refine AW.reg ?_
  have hF := True.intro
  repeat (first | refine wD1 ?_ | refine wD2 ?_ | refine wE1 ?_ | refine wE2 ?_ | (refine wE3 ?_; intro _) | (refine wE4 ?_; intro _) | refine wN ?_ | ((with_reducible show evIs _ (_ :: _) _ _); first | refine wQ ?_ | refine wF ?_ | refine wG ?_ | refine wT ?_ | refine wM ?_ | refine wS ?_ | refine wP ?_ | refine wJ ?_ | refine wX ?_ | refine wY ?_))
  clear hF
  repeat refine evDone ?_
  try (show AW _ _ _ _ _)
  repeat refine AW.seq ?_
  refine AW.reg ?_
  have hF := True.intro
  repeat (first | refine wD1 ?_ | refine wD2 ?_ | refine wE1 ?_ | refine wE2 ?_ | (refine wE3 ?_; intro _) | (refine wE4 ?_; intro _) | refine wN ?_ | ((with_reducible show evIs _ (_ :: _) _ _); first | refine wQ ?_ | refine wF ?_ | refine wG ?_ | refine wT ?_ | refine wM ?_ | refine wS ?_ | refine wP ?_ | refine wJ ?_ | refine wX ?_ | refine wY ?_))
  clear hF
  repeat refine evDone ?_
  try (show AW _ _ _ _ _)
  repeat refine AW.seq ?_
  refine AW.reg ?_
  have hF := True.intro
  repeat (first | refine wD1 ?_ | refine wD2 ?_ | refine wE1 ?_ | refine wE2 ?_ | (refine wE3 ?_; intro _) | (refine wE4 ?_; intro _) | refine wN ?_ | ((with_reducible show evIs _ (_ :: _) _ _); first | refine wQ ?_ | refine wF ?_ | refine wG ?_ | refine wT ?_ | refine wM ?_ | refine wS ?_ | refine wP ?_ | refine wJ ?_ | refine wX ?_ | refine wY ?_))
  clear hF
  repeat refine evDone ?_
  try (show AW _ _ _ _ _)
  repeat refine AW.seq ?_
  refine AW.block ?_
  refine AW.loop (fun g : Nat × Nat × Int => g.1 ≤ is.length) (fun g => mkS [(1, .int .i64 g.2.2), (14, .sl .fro (avs is)), (15, .int .i64 is.length), (16, .int .i64 g.1)] [] g.2.1) (fun g => is.length - g.1) (0, 10, IntKind.i64.wrap (IntKind.i64.wrap (a - 1) - ks.length)) (by simp) ?_ ?_
  · refine Fit.mk _ _ _ (by simp [hk0, conv2, newEmp, convs_refl, convs, conv]) (by simp [hk0, heapFit, newEmp, conv2s, conv2, convs_refl, convs, conv]) (by intro q hq; first | (simp at hq; done) | (simp at hq; omega) | (simp at hq; simp; omega))
  · rintro ⟨i, n, b⟩ hi
    dsimp only at hi ⊢
    have hnl : ∀ k, (n + k < n) = False := fun k => eq_false (by omega)
    repeat refine AW.seq ?_
    refine AW.reg ?_
    by_cases hlt : i < is.length
    · have hF := hlt
      repeat (first | refine wD1 ?_ | refine wD2 ?_ | refine wE1 ?_ | refine wE2 ?_ | (refine wE3 ?_; intro _) | (refine wE4 ?_; intro _) | refine wN ?_ | ((with_reducible show evIs _ (_ :: _) _ _); first | refine wQ ?_ | refine wF ?_ | refine wG ?_ | refine wT ?_ | refine wM ?_ | refine wS ?_ | refine wP ?_ | refine wJ ?_ | refine wX ?_ | refine wY ?_))
      clear hF
      repeat refine evDone ?_
      try (show AW _ _ _ _ _)
      repeat refine AW.seq ?_
      refine AW.condT (by simp []) (by simp []) ?_
      refine AW.skip ?_
      show AW _ _ _ _ _
      refine AW.seq (AW.block ?_)
      have hx : ∃ x, is[i]? = some x := ⟨_, List.getElem?_eq_getElem hlt⟩
      obtain ⟨x, hx⟩ := hx
      have he := elem_map (f := Val.av) hx
      rw [← vals_map] at he
      have hxm := List.mem_of_getElem? hx
      have hxo := okvs_mem hok.2.2 hxm
      have hxs := szs_mem hxm
      have hxc := ih x (by omega) hxo b
      obtain ⟨k', n', t', is', ks'⟩ := x
      simp only [Val.av] at he hxc
      repeat refine AW.seq ?_
      refine AW.reg ?_
      have hF := And.intro (hlt) (And.intro (he) (hnl))
      repeat (first | refine wD1 ?_ | refine wD2 ?_ | refine wE1 ?_ | refine wE2 ?_ | (refine wE3 ?_; intro _) | (refine wE4 ?_; intro _) | refine wN ?_ | ((with_reducible show evIs _ (_ :: _) _ _); first | refine wQ ?_ | refine wF ?_ | refine wG ?_ | refine wT ?_ | refine wM ?_ | refine wS ?_ | refine wP ?_ | refine wJ ?_ | refine wX ?_ | refine wY ?_))
      clear hF
      repeat refine evDone ?_
      try (show AW _ _ _ _ _)
      repeat refine AW.seq ?_
      refine AW.reg ?_
      by_cases hb : b < 0
      · have hF := hb
        repeat (first | refine wD1 ?_ | refine wD2 ?_ | refine wE1 ?_ | refine wE2 ?_ | (refine wE3 ?_; intro _) | (refine wE4 ?_; intro _) | refine wN ?_ | ((with_reducible show evIs _ (_ :: _) _ _); first | refine wQ ?_ | refine wF ?_ | refine wG ?_ | refine wT ?_ | refine wM ?_ | refine wS ?_ | refine wP ?_ | refine wJ ?_ | refine wX ?_ | refine wY ?_))
        clear hF
        repeat refine evDone ?_
        try (show AW _ _ _ _ _)
        repeat refine AW.seq ?_
        refine AW.condT (by simp [hb]) (by simp [hb]) ?_
        repeat refine AW.seq ?_
        refine AW.reg ?_
        have hF := True.intro
        repeat (first | refine wD1 ?_ | refine wD2 ?_ | refine wE1 ?_ | refine wE2 ?_ | (refine wE3 ?_; intro _) | (refine wE4 ?_; intro _) | refine wN ?_ | ((with_reducible show evIs _ (_ :: _) _ _); first | refine wQ ?_ | refine wF ?_ | refine wG ?_ | refine wT ?_ | refine wM ?_ | refine wS ?_ | refine wP ?_ | refine wJ ?_ | refine wX ?_ | refine wY ?_))
        clear hF
        repeat refine evDone ?_
        try (show AW _ _ _ _ _)
        refine AW.ret (retI (r := .int .i64 b) ⟨_, rfl, trivial⟩ ?_)
        simp [a31_res, resOk, resP, resV, ARes.op, R2s, R2, R1s, R1, closeOk, closeV]
      · have hF := hb
        repeat (first | refine wD1 ?_ | refine wD2 ?_ | refine wE1 ?_ | refine wE2 ?_ | (refine wE3 ?_; intro _) | (refine wE4 ?_; intro _) | refine wN ?_ | ((with_reducible show evIs _ (_ :: _) _ _); first | refine wQ ?_ | refine wF ?_ | refine wG ?_ | refine wT ?_ | refine wM ?_ | refine wS ?_ | refine wP ?_ | refine wJ ?_ | refine wX ?_ | refine wY ?_))
        clear hF
        repeat refine evDone ?_
        try (show AW _ _ _ _ _)
        repeat refine AW.seq ?_
        refine AW.condF (by simp [hb]) (by simp [hb]) ?_
        refine AW.skip ?_
        show AW _ _ _ _ _
        repeat refine AW.seq ?_
        refine AW.reg ?_
        have hF := hnl
        repeat (first | refine wD1 ?_ | refine wD2 ?_ | refine wE1 ?_ | refine wE2 ?_ | (refine wE3 ?_; intro _) | (refine wE4 ?_; intro _) | refine wN ?_ | ((with_reducible show evIs _ (_ :: _) _ _); first | refine wQ ?_ | refine wF ?_ | refine wG ?_ | refine wT ?_ | refine wM ?_ | refine wS ?_ | refine wP ?_ | refine wJ ?_ | refine wX ?_ | refine wY ?_))
        clear hF
        repeat refine evDone ?_
        try (show AW _ _ _ _ _)
        have hF := hnl
        refine wI (hA := hxc) ?_
        clear hF
        intro b' _
        have hF := True.intro
        repeat (first | refine wD1 ?_ | refine wD2 ?_ | refine wE1 ?_ | refine wE2 ?_ | (refine wE3 ?_; intro _) | (refine wE4 ?_; intro _) | refine wN ?_ | ((with_reducible show evIs _ (_ :: _) _ _); first | refine wQ ?_ | refine wF ?_ | refine wG ?_ | refine wT ?_ | refine wM ?_ | refine wS ?_ | refine wP ?_ | refine wJ ?_ | refine wX ?_ | refine wY ?_))
        clear hF
        repeat refine evDone ?_
        try (show AW _ _ _ _ _)
        refine AW.reg ?_
        have hw : IntKind.i64.wrap ((i : Int) + 1) = (i : Int) + 1 := i64_in _ ⟨by omega, by omega⟩
        have hF := hw
        repeat (first | refine wD1 ?_ | refine wD2 ?_ | refine wE1 ?_ | refine wE2 ?_ | (refine wE3 ?_; intro _) | (refine wE4 ?_; intro _) | refine wN ?_ | ((with_reducible show evIs _ (_ :: _) _ _); first | refine wQ ?_ | refine wF ?_ | refine wG ?_ | refine wT ?_ | refine wM ?_ | refine wS ?_ | refine wP ?_ | refine wJ ?_ | refine wX ?_ | refine wY ?_))
        clear hF
        repeat refine evDone ?_
        try (show AW _ _ _ _ _)
        refine ⟨(i + 1, n + 60, b'), by dsimp only; omega, by dsimp only; omega, ?_⟩
        refine Fit.mk _ _ _ (by simp [hw, conv2, newEmp, convs_refl, convs, conv]) (by simp [hw, heapFit, newEmp, conv2s, conv2, convs_refl, convs, conv]) (by intro q hq; first | (simp at hq; done) | (simp at hq; omega) | (simp at hq; simp; omega))
    · have hlt2 : ¬ (i : Int) < is.length := by omega
      have hF := And.intro (hlt) (hlt2)
      repeat (first | refine wD1 ?_ | refine wD2 ?_ | refine wE1 ?_ | refine wE2 ?_ | (refine wE3 ?_; intro _) | (refine wE4 ?_; intro _) | refine wN ?_ | ((with_reducible show evIs _ (_ :: _) _ _); first | refine wQ ?_ | refine wF ?_ | refine wG ?_ | refine wT ?_ | refine wM ?_ | refine wS ?_ | refine wP ?_ | refine wJ ?_ | refine wX ?_ | refine wY ?_))
      clear hF
      repeat refine evDone ?_
      try (show AW _ _ _ _ _)
      repeat refine AW.seq ?_
      refine AW.condF (by simp []) (by simp []) ?_
      refine AW.exit ?_
      show AW _ _ _ _ _
      repeat refine AW.seq ?_
      refine AW.reg ?_
      have hF := True.intro
      repeat (first | refine wD1 ?_ | refine wD2 ?_ | refine wE1 ?_ | refine wE2 ?_ | (refine wE3 ?_; intro _) | (refine wE4 ?_; intro _) | refine wN ?_ | ((with_reducible show evIs _ (_ :: _) _ _); first | refine wQ ?_ | refine wF ?_ | refine wG ?_ | refine wT ?_ | refine wM ?_ | refine wS ?_ | refine wP ?_ | refine wJ ?_ | refine wX ?_ | refine wY ?_))
      clear hF
      repeat refine evDone ?_
      try (show AW _ _ _ _ _)
      refine AW.ret (retI (r := .int .i64 b) ⟨_, rfl, trivial⟩ ?_)
      simp [a31_res, resOk, resP, resV, ARes.op, R2s, R2, R1s, R1, closeOk, closeV]
theorem f31 (v : Val) (hok : v.okv) (a : Int) : ACall Try.prog 31 [v.av, .int .i64 a] (fun r => ∃ b, r = .int .i64 b ∧ True) := by
  have key : ∀ (m : Nat) (v : Val), v.sz ≤ m → v.okv → ∀ a, ACall Try.prog 31 [v.av, .int .i64 a] (fun r => ∃ b, r = .int .i64 b ∧ True) := by
    intro m
    induction m using Nat.strongRecOn with
    | _ m ih => exact fun v hm hok => f31_step m (fun v' h ho => ih v'.sz h v' (Nat.le_refl _) ho) v hm hok
  exact key _ v (Nat.le_refl _) hok a
theorem f11 (vs : List Val) (hok : okvs vs) (hb : vs.length * 80 ≤ 140737488355328) : ACall Try.prog 11 [.sl .fro (avs vs)] (fun r => ∃ b, r = .bool b ∧ True) := by
  have h31 := f31 (.mk 0 0 ⟨#[]⟩ vs []) ⟨hb, by simp, hok⟩ 200
  simp only [Val.av, List.map_nil] at h31
  refine a11_of (by simp) ?_
  repeat refine AW.seq ?_
  refine AW.reg ?_
  have hF := True.intro
  repeat (first | refine wD1 ?_ | refine wD2 ?_ | refine wE1 ?_ | refine wE2 ?_ | (refine wE3 ?_; intro _) | (refine wE4 ?_; intro _) | refine wN ?_ | ((with_reducible show evIs _ (_ :: _) _ _); first | refine wQ ?_ | refine wF ?_ | refine wG ?_ | refine wT ?_ | refine wM ?_ | refine wS ?_ | refine wP ?_ | refine wJ ?_ | refine wX ?_ | refine wY ?_))
  clear hF
  repeat refine evDone ?_
  try (show AW _ _ _ _ _)
  repeat refine AW.seq ?_
  refine AW.reg ?_
  have hF := True.intro
  repeat (first | refine wD1 ?_ | refine wD2 ?_ | refine wE1 ?_ | refine wE2 ?_ | (refine wE3 ?_; intro _) | (refine wE4 ?_; intro _) | refine wN ?_ | ((with_reducible show evIs _ (_ :: _) _ _); first | refine wQ ?_ | refine wF ?_ | refine wG ?_ | refine wT ?_ | refine wM ?_ | refine wS ?_ | refine wP ?_ | refine wJ ?_ | refine wX ?_ | refine wY ?_))
  clear hF
  repeat refine evDone ?_
  try (show AW _ _ _ _ _)
  have hF := True.intro
  refine wI (hA := h31) ?_
  clear hF
  intro b _
  have hF := True.intro
  repeat (first | refine wD1 ?_ | refine wD2 ?_ | refine wE1 ?_ | refine wE2 ?_ | (refine wE3 ?_; intro _) | (refine wE4 ?_; intro _) | refine wN ?_ | ((with_reducible show evIs _ (_ :: _) _ _); first | refine wQ ?_ | refine wF ?_ | refine wG ?_ | refine wT ?_ | refine wM ?_ | refine wS ?_ | refine wP ?_ | refine wJ ?_ | refine wX ?_ | refine wY ?_))
  clear hF
  repeat refine evDone ?_
  try (show AW _ _ _ _ _)
  refine AW.ret (retI (r := .bool (decide (b < 0))) ⟨_, rfl, trivial⟩ ?_)
  simp [a11_res, resOk, resP, resV, ARes.op, R2s, R2, R1s, R1, closeOk, closeV]
end Go.Proofs.Ytafkaofaioleiaa

set_option linter.unusedSimpArgs false
set_option linter.unusedVariables false
set_option maxHeartbeats 8000000
namespace Go.Proofs.Ytafkaofaioleiaa
open Go Go.Amb Go.IntWalk

theorem mark_step {ls : List Frame} {i : Nat} {x : Frame} (hno : ∀ j, j < i → ∀ x, ls[j]? = some x → x.marks.length ≤ 12) (hx : ls[i]? = some x) (hp : x.marks.length ≤ 12) : ∀ j, j < i + 1 → ∀ x, ls[j]? = some x → x.marks.length ≤ 12 := by
  intro j hj y hy
  by_cases hji : j = i
  · subst hji; rw [hx] at hy; injection hy with hy; subst hy; exact hp
  · exact hno j (by omega) y hy
theorem f10 (ls : List Frame) (hok : ∀ f ∈ ls, f.ok) (hb : ls.length * 88 ≤ 140737488355328) : ACall Try.prog 10 [.sl .fro (ls.map Frame.av)] (fun r => ∃ b, r = .bool b ∧ (b = false → ls.length ≤ 12 ∧ ∀ f ∈ ls, f.marks.length ≤ 12)) := by
  have hk0 : 0 ≤ ls.length := by omega
  refine a10_of (by simp) ?_
  repeat refine AW.seq ?_
  refine AW.reg ?_
  have hF := True.intro
  repeat (first | refine wD1 ?_ | refine wD2 ?_ | refine wE1 ?_ | refine wE2 ?_ | (refine wE3 ?_; intro _) | (refine wE4 ?_; intro _) | refine wN ?_ | ((with_reducible show evIs _ (_ :: _) _ _); first | refine wQ ?_ | refine wF ?_ | refine wG ?_ | refine wT ?_ | refine wM ?_ | refine wS ?_ | refine wP ?_ | refine wJ ?_ | refine wX ?_ | refine wY ?_))
  clear hF
  repeat refine evDone ?_
  try (show AW _ _ _ _ _)
  repeat refine AW.seq ?_
  refine AW.reg ?_
  have hF := True.intro
  repeat (first | refine wD1 ?_ | refine wD2 ?_ | refine wE1 ?_ | refine wE2 ?_ | (refine wE3 ?_; intro _) | (refine wE4 ?_; intro _) | refine wN ?_ | ((with_reducible show evIs _ (_ :: _) _ _); first | refine wQ ?_ | refine wF ?_ | refine wG ?_ | refine wT ?_ | refine wM ?_ | refine wS ?_ | refine wP ?_ | refine wJ ?_ | refine wX ?_ | refine wY ?_))
  clear hF
  repeat refine evDone ?_
  try (show AW _ _ _ _ _)
  by_cases h1 : 12 < (ls.length : Int)
  · repeat refine AW.seq ?_
    refine AW.condT (by simp [h1]) (by simp [h1]) ?_
    repeat refine AW.seq ?_
    refine AW.reg ?_
    have hF := True.intro
    repeat (first | refine wD1 ?_ | refine wD2 ?_ | refine wE1 ?_ | refine wE2 ?_ | (refine wE3 ?_; intro _) | (refine wE4 ?_; intro _) | refine wN ?_ | ((with_reducible show evIs _ (_ :: _) _ _); first | refine wQ ?_ | refine wF ?_ | refine wG ?_ | refine wT ?_ | refine wM ?_ | refine wS ?_ | refine wP ?_ | refine wJ ?_ | refine wX ?_ | refine wY ?_))
    clear hF
    repeat refine evDone ?_
    try (show AW _ _ _ _ _)
    refine AW.ret (retI (r := .bool true) ⟨_, rfl, fun h => by cases h⟩ ?_)
    simp [a10_res, resOk, resP, resV, ARes.op, R2s, R2, R1s, R1, closeOk, closeV]
  · repeat refine AW.seq ?_
    refine AW.condF (by simp [h1]) (by simp [h1]) ?_
    refine AW.skip ?_
    show AW _ _ _ _ _
    repeat refine AW.seq ?_
    refine AW.reg ?_
    have hF := True.intro
    repeat (first | refine wD1 ?_ | refine wD2 ?_ | refine wE1 ?_ | refine wE2 ?_ | (refine wE3 ?_; intro _) | (refine wE4 ?_; intro _) | refine wN ?_ | ((with_reducible show evIs _ (_ :: _) _ _); first | refine wQ ?_ | refine wF ?_ | refine wG ?_ | refine wT ?_ | refine wM ?_ | refine wS ?_ | refine wP ?_ | refine wJ ?_ | refine wX ?_ | refine wY ?_))
    clear hF
    repeat refine evDone ?_
    try (show AW _ _ _ _ _)
    repeat refine AW.seq ?_
    refine AW.block ?_
    refine AW.loop (fun g : Nat × Nat => g.1 ≤ ls.length ∧ 0 ≤ g.2 ∧ (∀ j, j < g.1 → ∀ x, ls[j]? = some x → x.marks.length ≤ 12)) (fun g => mkS [(12, .sl .fro (ls.map Frame.av)), (13, .int .i64 ls.length), (14, .int .i64 g.1)] [] g.2) (fun g => ls.length - g.1) (0, 10) ⟨by simp, by simp, fun j hj => absurd hj (by simp)⟩ ?_ ?_
    · refine Fit.mk _ _ _ (by simp [hk0, conv2, newEmp, convs_refl, convs, conv]) (by simp [hk0, heapFit, newEmp, conv2s, conv2, convs_refl, convs, conv]) (by intro q hq; first | (simp at hq; done) | (simp at hq; omega) | (simp at hq; simp; omega))
    · rintro ⟨i0, n⟩ ⟨hi0, hn, hno⟩
      dsimp only at hi0 hn hno ⊢
      have hnl : ∀ k, (n + k < n) = False := fun k => eq_false (by omega)

      repeat refine AW.seq ?_
      refine AW.reg ?_
      by_cases hlti0 : i0 < ls.length
      · have hF := hlti0
        repeat (first | refine wD1 ?_ | refine wD2 ?_ | refine wE1 ?_ | refine wE2 ?_ | (refine wE3 ?_; intro _) | (refine wE4 ?_; intro _) | refine wN ?_ | ((with_reducible show evIs _ (_ :: _) _ _); first | refine wQ ?_ | refine wF ?_ | refine wG ?_ | refine wT ?_ | refine wM ?_ | refine wS ?_ | refine wP ?_ | refine wJ ?_ | refine wX ?_ | refine wY ?_))
        clear hF
        repeat refine evDone ?_
        try (show AW _ _ _ _ _)
        repeat refine AW.seq ?_
        refine AW.condT (by simp []) (by simp []) ?_
        refine AW.skip ?_
        show AW _ _ _ _ _
        refine AW.seq (AW.block ?_)
        obtain ⟨x, hx⟩ : ∃ x, ls[i0]? = some x := ⟨_, List.getElem?_eq_getElem hlti0⟩
        have he := elem_map (f := Frame.av) hx
        have hf := hx
        have hxo := hok x (List.mem_of_getElem? hx)
        obtain ⟨fn, pc, slots, stack, marks⟩ := x
        obtain ⟨hs1, hs2, hs3, hs4, hm1, hm2⟩ := hxo
        dsimp only at hs1 hs2 hs3 hs4 hm1 hm2
        have ha := f11 slots hs1 hs2
        have hb2 := f11 stack hs3 hs4
        simp only [Frame.av] at he
        repeat refine AW.seq ?_
        refine AW.reg ?_
        have hF := And.intro (hlti0) (And.intro (he) (hnl))
        repeat (first | refine wD1 ?_ | refine wD2 ?_ | refine wE1 ?_ | refine wE2 ?_ | (refine wE3 ?_; intro _) | (refine wE4 ?_; intro _) | refine wN ?_ | ((with_reducible show evIs _ (_ :: _) _ _); first | refine wQ ?_ | refine wF ?_ | refine wG ?_ | refine wT ?_ | refine wM ?_ | refine wS ?_ | refine wP ?_ | refine wJ ?_ | refine wX ?_ | refine wY ?_))
        clear hF
        repeat refine evDone ?_
        try (show AW _ _ _ _ _)
        repeat refine AW.seq ?_
        refine AW.reg ?_
        by_cases h12 : 12 < (marks.length : Int)
        · have hF := And.intro (h12) (hnl)
          repeat (first | refine wD1 ?_ | refine wD2 ?_ | refine wE1 ?_ | refine wE2 ?_ | (refine wE3 ?_; intro _) | (refine wE4 ?_; intro _) | refine wN ?_ | ((with_reducible show evIs _ (_ :: _) _ _); first | refine wQ ?_ | refine wF ?_ | refine wG ?_ | refine wT ?_ | refine wM ?_ | refine wS ?_ | refine wP ?_ | refine wJ ?_ | refine wX ?_ | refine wY ?_))
          clear hF
          repeat refine evDone ?_
          try (show AW _ _ _ _ _)
          repeat refine AW.seq ?_
          refine AW.condT (by simp [h12]) (by simp [h12]) ?_
          repeat refine AW.seq ?_
          refine AW.reg ?_
          have hF := True.intro
          repeat (first | refine wD1 ?_ | refine wD2 ?_ | refine wE1 ?_ | refine wE2 ?_ | (refine wE3 ?_; intro _) | (refine wE4 ?_; intro _) | refine wN ?_ | ((with_reducible show evIs _ (_ :: _) _ _); first | refine wQ ?_ | refine wF ?_ | refine wG ?_ | refine wT ?_ | refine wM ?_ | refine wS ?_ | refine wP ?_ | refine wJ ?_ | refine wX ?_ | refine wY ?_))
          clear hF
          repeat refine evDone ?_
          try (show AW _ _ _ _ _)
          refine AW.ret (retI (r := .bool true) ⟨_, rfl, fun h => by cases h⟩ ?_)
          simp [a10_res, resOk, resP, resV, ARes.op, R2s, R2, R1s, R1, closeOk, closeV]
        by_cases h40 : 40 < (slots.length : Int)
        · have hF := And.intro (h12) (And.intro (h40) (hnl))
          repeat (first | refine wD1 ?_ | refine wD2 ?_ | refine wE1 ?_ | refine wE2 ?_ | (refine wE3 ?_; intro _) | (refine wE4 ?_; intro _) | refine wN ?_ | ((with_reducible show evIs _ (_ :: _) _ _); first | refine wQ ?_ | refine wF ?_ | refine wG ?_ | refine wT ?_ | refine wM ?_ | refine wS ?_ | refine wP ?_ | refine wJ ?_ | refine wX ?_ | refine wY ?_))
          clear hF
          repeat refine evDone ?_
          try (show AW _ _ _ _ _)
          repeat refine AW.seq ?_
          refine AW.condT (by simp [h12, h40]) (by simp [h12, h40]) ?_
          repeat refine AW.seq ?_
          refine AW.reg ?_
          have hF := True.intro
          repeat (first | refine wD1 ?_ | refine wD2 ?_ | refine wE1 ?_ | refine wE2 ?_ | (refine wE3 ?_; intro _) | (refine wE4 ?_; intro _) | refine wN ?_ | ((with_reducible show evIs _ (_ :: _) _ _); first | refine wQ ?_ | refine wF ?_ | refine wG ?_ | refine wT ?_ | refine wM ?_ | refine wS ?_ | refine wP ?_ | refine wJ ?_ | refine wX ?_ | refine wY ?_))
          clear hF
          repeat refine evDone ?_
          try (show AW _ _ _ _ _)
          refine AW.ret (retI (r := .bool true) ⟨_, rfl, fun h => by cases h⟩ ?_)
          simp [a10_res, resOk, resP, resV, ARes.op, R2s, R2, R1s, R1, closeOk, closeV]
        by_cases h60 : 60 < (stack.length : Int)
        · have hF := And.intro (h12) (And.intro (h40) (And.intro (h60) (hnl)))
          repeat (first | refine wD1 ?_ | refine wD2 ?_ | refine wE1 ?_ | refine wE2 ?_ | (refine wE3 ?_; intro _) | (refine wE4 ?_; intro _) | refine wN ?_ | ((with_reducible show evIs _ (_ :: _) _ _); first | refine wQ ?_ | refine wF ?_ | refine wG ?_ | refine wT ?_ | refine wM ?_ | refine wS ?_ | refine wP ?_ | refine wJ ?_ | refine wX ?_ | refine wY ?_))
          clear hF
          repeat refine evDone ?_
          try (show AW _ _ _ _ _)
          repeat refine AW.seq ?_
          refine AW.condT (by simp [h12, h40, h60]) (by simp [h12, h40, h60]) ?_
          repeat refine AW.seq ?_
          refine AW.reg ?_
          have hF := True.intro
          repeat (first | refine wD1 ?_ | refine wD2 ?_ | refine wE1 ?_ | refine wE2 ?_ | (refine wE3 ?_; intro _) | (refine wE4 ?_; intro _) | refine wN ?_ | ((with_reducible show evIs _ (_ :: _) _ _); first | refine wQ ?_ | refine wF ?_ | refine wG ?_ | refine wT ?_ | refine wM ?_ | refine wS ?_ | refine wP ?_ | refine wJ ?_ | refine wX ?_ | refine wY ?_))
          clear hF
          repeat refine evDone ?_
          try (show AW _ _ _ _ _)
          refine AW.ret (retI (r := .bool true) ⟨_, rfl, fun h => by cases h⟩ ?_)
          simp [a10_res, resOk, resP, resV, ARes.op, R2s, R2, R1s, R1, closeOk, closeV]
        have hF := And.intro (h12) (And.intro (h40) (And.intro (h60) (hnl)))
        repeat (first | refine wD1 ?_ | refine wD2 ?_ | refine wE1 ?_ | refine wE2 ?_ | (refine wE3 ?_; intro _) | (refine wE4 ?_; intro _) | refine wN ?_ | ((with_reducible show evIs _ (_ :: _) _ _); first | refine wQ ?_ | refine wF ?_ | refine wG ?_ | refine wT ?_ | refine wM ?_ | refine wS ?_ | refine wP ?_ | refine wJ ?_ | refine wX ?_ | refine wY ?_))
        clear hF
        repeat refine evDone ?_
        try (show AW _ _ _ _ _)
        have hF := And.intro (h12) (And.intro (h40) (And.intro (h60) (hnl)))
        refine wB (hA := ha) ?_
        clear hF
        intro b1 _
        cases b1 with
        | true =>
          have hF := And.intro (h12) (And.intro (h40) (And.intro (h60) (hnl)))
          repeat (first | refine wD1 ?_ | refine wD2 ?_ | refine wE1 ?_ | refine wE2 ?_ | (refine wE3 ?_; intro _) | (refine wE4 ?_; intro _) | refine wN ?_ | ((with_reducible show evIs _ (_ :: _) _ _); first | refine wQ ?_ | refine wF ?_ | refine wG ?_ | refine wT ?_ | refine wM ?_ | refine wS ?_ | refine wP ?_ | refine wJ ?_ | refine wX ?_ | refine wY ?_))
          clear hF
          repeat refine evDone ?_
          try (show AW _ _ _ _ _)
          repeat refine AW.seq ?_
          refine AW.condT (by simp [h12, h40, h60]) (by simp [h12, h40, h60]) ?_
          repeat refine AW.seq ?_
          refine AW.reg ?_
          have hF := True.intro
          repeat (first | refine wD1 ?_ | refine wD2 ?_ | refine wE1 ?_ | refine wE2 ?_ | (refine wE3 ?_; intro _) | (refine wE4 ?_; intro _) | refine wN ?_ | ((with_reducible show evIs _ (_ :: _) _ _); first | refine wQ ?_ | refine wF ?_ | refine wG ?_ | refine wT ?_ | refine wM ?_ | refine wS ?_ | refine wP ?_ | refine wJ ?_ | refine wX ?_ | refine wY ?_))
          clear hF
          repeat refine evDone ?_
          try (show AW _ _ _ _ _)
          refine AW.ret (retI (r := .bool true) ⟨_, rfl, fun h => by cases h⟩ ?_)
          simp [a10_res, resOk, resP, resV, ARes.op, R2s, R2, R1s, R1, closeOk, closeV]
        | false =>
          have hF := And.intro (h12) (And.intro (h40) (And.intro (h60) (hnl)))
          repeat (first | refine wD1 ?_ | refine wD2 ?_ | refine wE1 ?_ | refine wE2 ?_ | (refine wE3 ?_; intro _) | (refine wE4 ?_; intro _) | refine wN ?_ | ((with_reducible show evIs _ (_ :: _) _ _); first | refine wQ ?_ | refine wF ?_ | refine wG ?_ | refine wT ?_ | refine wM ?_ | refine wS ?_ | refine wP ?_ | refine wJ ?_ | refine wX ?_ | refine wY ?_))
          clear hF
          repeat refine evDone ?_
          try (show AW _ _ _ _ _)
          have hF := And.intro (h12) (And.intro (h40) (And.intro (h60) (hnl)))
          refine wB (hA := hb2) ?_
          clear hF
          intro b2 _
          cases b2 with
          | true =>
            have hF := And.intro (h12) (And.intro (h40) (And.intro (h60) (hnl)))
            repeat (first | refine wD1 ?_ | refine wD2 ?_ | refine wE1 ?_ | refine wE2 ?_ | (refine wE3 ?_; intro _) | (refine wE4 ?_; intro _) | refine wN ?_ | ((with_reducible show evIs _ (_ :: _) _ _); first | refine wQ ?_ | refine wF ?_ | refine wG ?_ | refine wT ?_ | refine wM ?_ | refine wS ?_ | refine wP ?_ | refine wJ ?_ | refine wX ?_ | refine wY ?_))
            clear hF
            repeat refine evDone ?_
            try (show AW _ _ _ _ _)
            repeat refine AW.seq ?_
            refine AW.condT (by simp [h12, h40, h60]) (by simp [h12, h40, h60]) ?_
            repeat refine AW.seq ?_
            refine AW.reg ?_
            have hF := True.intro
            repeat (first | refine wD1 ?_ | refine wD2 ?_ | refine wE1 ?_ | refine wE2 ?_ | (refine wE3 ?_; intro _) | (refine wE4 ?_; intro _) | refine wN ?_ | ((with_reducible show evIs _ (_ :: _) _ _); first | refine wQ ?_ | refine wF ?_ | refine wG ?_ | refine wT ?_ | refine wM ?_ | refine wS ?_ | refine wP ?_ | refine wJ ?_ | refine wX ?_ | refine wY ?_))
            clear hF
            repeat refine evDone ?_
            try (show AW _ _ _ _ _)
            refine AW.ret (retI (r := .bool true) ⟨_, rfl, fun h => by cases h⟩ ?_)
            simp [a10_res, resOk, resP, resV, ARes.op, R2s, R2, R1s, R1, closeOk, closeV]
          | false =>
            have hF := And.intro (h12) (And.intro (h40) (And.intro (h60) (hnl)))
            repeat (first | refine wD1 ?_ | refine wD2 ?_ | refine wE1 ?_ | refine wE2 ?_ | (refine wE3 ?_; intro _) | (refine wE4 ?_; intro _) | refine wN ?_ | ((with_reducible show evIs _ (_ :: _) _ _); first | refine wQ ?_ | refine wF ?_ | refine wG ?_ | refine wT ?_ | refine wM ?_ | refine wS ?_ | refine wP ?_ | refine wJ ?_ | refine wX ?_ | refine wY ?_))
            clear hF
            repeat refine evDone ?_
            try (show AW _ _ _ _ _)
            repeat refine AW.seq ?_
            refine AW.condF (by simp [h12, h40, h60]) (by simp [h12, h40, h60]) ?_
            refine AW.skip ?_
            show AW _ _ _ _ _
            repeat refine AW.seq ?_
            refine AW.reg ?_
            have hF := hnl
            repeat (first | refine wD1 ?_ | refine wD2 ?_ | refine wE1 ?_ | refine wE2 ?_ | (refine wE3 ?_; intro _) | (refine wE4 ?_; intro _) | refine wN ?_ | ((with_reducible show evIs _ (_ :: _) _ _); first | refine wQ ?_ | refine wF ?_ | refine wG ?_ | refine wT ?_ | refine wM ?_ | refine wS ?_ | refine wP ?_ | refine wJ ?_ | refine wX ?_ | refine wY ?_))
            clear hF
            repeat refine evDone ?_
            try (show AW _ _ _ _ _)
            have hno0 := hno
            repeat refine AW.seq ?_
            refine AW.block ?_
            refine AW.loop (fun g : Nat × Nat => g.1 ≤ marks.length ∧ 0 ≤ g.2) (fun g => mkS [(12, .sl .fro (ls.map Frame.av)), (13, .int .i64 ls.length), (14, .int .i64 i0), (45, .sl .fro (marks.map Mark.av)), (46, .int .i64 marks.length), (47, .int .i64 g.1)] [] g.2) (fun g => marks.length - g.1) (0, n + 100) ⟨by simp, by simp⟩ ?_ ?_
            · refine Fit.mk _ _ _ (by simp [hk0, conv2, newEmp, convs_refl, convs, conv]) (by simp [hk0, heapFit, newEmp, conv2s, conv2, convs_refl, convs, conv]) (by intro q hq; first | (simp at hq; done) | (simp at hq; omega) | (simp at hq; simp; omega))
            · rintro ⟨i1, n⟩ ⟨hi1, hn⟩
              dsimp only at hi1 hn ⊢
              have hnl : ∀ k, (n + k < n) = False := fun k => eq_false (by omega)

              repeat refine AW.seq ?_
              refine AW.reg ?_
              by_cases hlti1 : i1 < marks.length
              · have hF := hlti1
                repeat (first | refine wD1 ?_ | refine wD2 ?_ | refine wE1 ?_ | refine wE2 ?_ | (refine wE3 ?_; intro _) | (refine wE4 ?_; intro _) | refine wN ?_ | ((with_reducible show evIs _ (_ :: _) _ _); first | refine wQ ?_ | refine wF ?_ | refine wG ?_ | refine wT ?_ | refine wM ?_ | refine wS ?_ | refine wP ?_ | refine wJ ?_ | refine wX ?_ | refine wY ?_))
                clear hF
                repeat refine evDone ?_
                try (show AW _ _ _ _ _)
                repeat refine AW.seq ?_
                refine AW.condT (by simp []) (by simp []) ?_
                refine AW.skip ?_
                show AW _ _ _ _ _
                refine AW.seq (AW.block ?_)
                obtain ⟨x, hx⟩ : ∃ x, marks[i1]? = some x := ⟨_, List.getElem?_eq_getElem hlti1⟩
                have he := elem_map (f := Mark.av) hx
                have hxo := hm2 x (List.mem_of_getElem? hx)
                obtain ⟨kind, target, slot, height, us, tk, tn, tt, ti, ts⟩ := x
                obtain ⟨hu1, hu2, hu3⟩ := hxo
                dsimp only at hu1 hu2 hu3
                have h11 := f11 [.mk tk tn tt ti ts] ⟨hu3, trivial⟩ (by simp)
                simp only [avs, Val.av] at h11
                simp only [Mark.av] at he
                repeat refine AW.seq ?_
                refine AW.reg ?_
                have hF := And.intro (hlti1) (And.intro (he) (hnl))
                repeat (first | refine wD1 ?_ | refine wD2 ?_ | refine wE1 ?_ | refine wE2 ?_ | (refine wE3 ?_; intro _) | (refine wE4 ?_; intro _) | refine wN ?_ | ((with_reducible show evIs _ (_ :: _) _ _); first | refine wQ ?_ | refine wF ?_ | refine wG ?_ | refine wT ?_ | refine wM ?_ | refine wS ?_ | refine wP ?_ | refine wJ ?_ | refine wX ?_ | refine wY ?_))
                clear hF
                repeat refine evDone ?_
                try (show AW _ _ _ _ _)
                repeat refine AW.seq ?_
                refine AW.reg ?_
                by_cases h102 : 102 < (us.length : Int)
                · have hF := And.intro (h102) (hnl)
                  repeat (first | refine wD1 ?_ | refine wD2 ?_ | refine wE1 ?_ | refine wE2 ?_ | (refine wE3 ?_; intro _) | (refine wE4 ?_; intro _) | refine wN ?_ | ((with_reducible show evIs _ (_ :: _) _ _); first | refine wQ ?_ | refine wF ?_ | refine wG ?_ | refine wT ?_ | refine wM ?_ | refine wS ?_ | refine wP ?_ | refine wJ ?_ | refine wX ?_ | refine wY ?_))
                  clear hF
                  repeat refine evDone ?_
                  try (show AW _ _ _ _ _)
                  repeat refine AW.seq ?_
                  refine AW.condT (by simp [h102]) (by simp [h102]) ?_
                  repeat refine AW.seq ?_
                  refine AW.reg ?_
                  have hF := True.intro
                  repeat (first | refine wD1 ?_ | refine wD2 ?_ | refine wE1 ?_ | refine wE2 ?_ | (refine wE3 ?_; intro _) | (refine wE4 ?_; intro _) | refine wN ?_ | ((with_reducible show evIs _ (_ :: _) _ _); first | refine wQ ?_ | refine wF ?_ | refine wG ?_ | refine wT ?_ | refine wM ?_ | refine wS ?_ | refine wP ?_ | refine wJ ?_ | refine wX ?_ | refine wY ?_))
                  clear hF
                  repeat refine evDone ?_
                  try (show AW _ _ _ _ _)
                  refine AW.ret (retI (r := .bool true) ⟨_, rfl, fun h => by cases h⟩ ?_)
                  simp [a10_res, resOk, resP, resV, ARes.op, R2s, R2, R1s, R1, closeOk, closeV]
                · have hF := And.intro (h102) (hnl)
                  repeat (first | refine wD1 ?_ | refine wD2 ?_ | refine wE1 ?_ | refine wE2 ?_ | (refine wE3 ?_; intro _) | (refine wE4 ?_; intro _) | refine wN ?_ | ((with_reducible show evIs _ (_ :: _) _ _); first | refine wQ ?_ | refine wF ?_ | refine wG ?_ | refine wT ?_ | refine wM ?_ | refine wS ?_ | refine wP ?_ | refine wJ ?_ | refine wX ?_ | refine wY ?_))
                  clear hF
                  repeat refine evDone ?_
                  try (show AW _ _ _ _ _)
                  have hF := And.intro (h102) (hnl)
                  refine wB (hA := h11) ?_
                  clear hF
                  intro b _
                  cases b with
                  | true =>
                    have hF := h102
                    repeat (first | refine wD1 ?_ | refine wD2 ?_ | refine wE1 ?_ | refine wE2 ?_ | (refine wE3 ?_; intro _) | (refine wE4 ?_; intro _) | refine wN ?_ | ((with_reducible show evIs _ (_ :: _) _ _); first | refine wQ ?_ | refine wF ?_ | refine wG ?_ | refine wT ?_ | refine wM ?_ | refine wS ?_ | refine wP ?_ | refine wJ ?_ | refine wX ?_ | refine wY ?_))
                    clear hF
                    repeat refine evDone ?_
                    try (show AW _ _ _ _ _)
                    repeat refine AW.seq ?_
                    refine AW.condT (by simp [h102]) (by simp [h102]) ?_
                    repeat refine AW.seq ?_
                    refine AW.reg ?_
                    have hF := True.intro
                    repeat (first | refine wD1 ?_ | refine wD2 ?_ | refine wE1 ?_ | refine wE2 ?_ | (refine wE3 ?_; intro _) | (refine wE4 ?_; intro _) | refine wN ?_ | ((with_reducible show evIs _ (_ :: _) _ _); first | refine wQ ?_ | refine wF ?_ | refine wG ?_ | refine wT ?_ | refine wM ?_ | refine wS ?_ | refine wP ?_ | refine wJ ?_ | refine wX ?_ | refine wY ?_))
                    clear hF
                    repeat refine evDone ?_
                    try (show AW _ _ _ _ _)
                    refine AW.ret (retI (r := .bool true) ⟨_, rfl, fun h => by cases h⟩ ?_)
                    simp [a10_res, resOk, resP, resV, ARes.op, R2s, R2, R1s, R1, closeOk, closeV]
                  | false =>
                    have hF := h102
                    repeat (first | refine wD1 ?_ | refine wD2 ?_ | refine wE1 ?_ | refine wE2 ?_ | (refine wE3 ?_; intro _) | (refine wE4 ?_; intro _) | refine wN ?_ | ((with_reducible show evIs _ (_ :: _) _ _); first | refine wQ ?_ | refine wF ?_ | refine wG ?_ | refine wT ?_ | refine wM ?_ | refine wS ?_ | refine wP ?_ | refine wJ ?_ | refine wX ?_ | refine wY ?_))
                    clear hF
                    repeat refine evDone ?_
                    try (show AW _ _ _ _ _)
                    repeat refine AW.seq ?_
                    refine AW.condF (by simp [h102]) (by simp [h102]) ?_
                    refine AW.skip ?_
                    show AW _ _ _ _ _
                    repeat refine AW.seq ?_
                    refine AW.reg ?_
                    have hF := hnl
                    repeat (first | refine wD1 ?_ | refine wD2 ?_ | refine wE1 ?_ | refine wE2 ?_ | (refine wE3 ?_; intro _) | (refine wE4 ?_; intro _) | refine wN ?_ | ((with_reducible show evIs _ (_ :: _) _ _); first | refine wQ ?_ | refine wF ?_ | refine wG ?_ | refine wT ?_ | refine wM ?_ | refine wS ?_ | refine wP ?_ | refine wJ ?_ | refine wX ?_ | refine wY ?_))
                    clear hF
                    repeat refine evDone ?_
                    try (show AW _ _ _ _ _)
                    repeat refine AW.seq ?_
                    refine AW.block ?_
                    refine AW.loop (fun g : Nat × Nat => g.1 ≤ us.length ∧ 0 ≤ g.2) (fun g => mkS [(12, .sl .fro (ls.map Frame.av)), (13, .int .i64 ls.length), (14, .int .i64 i0), (45, .sl .fro (marks.map Mark.av)), (46, .int .i64 marks.length), (47, .int .i64 i1), (62, .sl .fro (us.map Undo.av)), (63, .int .i64 us.length), (64, .int .i64 g.1)] [] g.2) (fun g => us.length - g.1) (0, n + 100) ⟨by simp, by simp⟩ ?_ ?_
                    · refine Fit.mk _ _ _ (by simp [hk0, conv2, newEmp, convs_refl, convs, conv]) (by simp [hk0, heapFit, newEmp, conv2s, conv2, convs_refl, convs, conv]) (by intro q hq; first | (simp at hq; done) | (simp at hq; omega) | (simp at hq; simp; omega))
                    · rintro ⟨i, n⟩ ⟨hi, hn⟩
                      dsimp only at hi hn ⊢
                      have hnl : ∀ k, (n + k < n) = False := fun k => eq_false (by omega)

                      repeat refine AW.seq ?_
                      refine AW.reg ?_
                      by_cases hlt : i < us.length
                      · have hF := hlt
                        repeat (first | refine wD1 ?_ | refine wD2 ?_ | refine wE1 ?_ | refine wE2 ?_ | (refine wE3 ?_; intro _) | (refine wE4 ?_; intro _) | refine wN ?_ | ((with_reducible show evIs _ (_ :: _) _ _); first | refine wQ ?_ | refine wF ?_ | refine wG ?_ | refine wT ?_ | refine wM ?_ | refine wS ?_ | refine wP ?_ | refine wJ ?_ | refine wX ?_ | refine wY ?_))
                        clear hF
                        repeat refine evDone ?_
                        try (show AW _ _ _ _ _)
                        repeat refine AW.seq ?_
                        refine AW.condT (by simp []) (by simp []) ?_
                        refine AW.skip ?_
                        show AW _ _ _ _ _
                        refine AW.seq (AW.block ?_)
                        obtain ⟨u, hu⟩ : ∃ x, us[i]? = some x := ⟨_, List.getElem?_eq_getElem hlt⟩
                        have he := elem_map (f := Undo.av) hu
                        have huo := hu2 u (List.mem_of_getElem? hu)
                        obtain ⟨fn, args⟩ := u
                        have h11 := f11 args huo.1 huo.2
                        simp only [Undo.av] at he
                        repeat refine AW.seq ?_
                        refine AW.reg ?_
                        have hF := And.intro (hlt) (And.intro (he) (hnl))
                        repeat (first | refine wD1 ?_ | refine wD2 ?_ | refine wE1 ?_ | refine wE2 ?_ | (refine wE3 ?_; intro _) | (refine wE4 ?_; intro _) | refine wN ?_ | ((with_reducible show evIs _ (_ :: _) _ _); first | refine wQ ?_ | refine wF ?_ | refine wG ?_ | refine wT ?_ | refine wM ?_ | refine wS ?_ | refine wP ?_ | refine wJ ?_ | refine wX ?_ | refine wY ?_))
                        clear hF
                        repeat refine evDone ?_
                        try (show AW _ _ _ _ _)
                        repeat refine AW.seq ?_
                        refine AW.reg ?_
                        by_cases h20 : 20 < (args.length : Int)
                        · have hF := And.intro (h20) (hnl)
                          repeat (first | refine wD1 ?_ | refine wD2 ?_ | refine wE1 ?_ | refine wE2 ?_ | (refine wE3 ?_; intro _) | (refine wE4 ?_; intro _) | refine wN ?_ | ((with_reducible show evIs _ (_ :: _) _ _); first | refine wQ ?_ | refine wF ?_ | refine wG ?_ | refine wT ?_ | refine wM ?_ | refine wS ?_ | refine wP ?_ | refine wJ ?_ | refine wX ?_ | refine wY ?_))
                          clear hF
                          repeat refine evDone ?_
                          try (show AW _ _ _ _ _)
                          repeat refine AW.seq ?_
                          refine AW.condT (by simp [h20]) (by simp [h20]) ?_
                          repeat refine AW.seq ?_
                          refine AW.reg ?_
                          have hF := True.intro
                          repeat (first | refine wD1 ?_ | refine wD2 ?_ | refine wE1 ?_ | refine wE2 ?_ | (refine wE3 ?_; intro _) | (refine wE4 ?_; intro _) | refine wN ?_ | ((with_reducible show evIs _ (_ :: _) _ _); first | refine wQ ?_ | refine wF ?_ | refine wG ?_ | refine wT ?_ | refine wM ?_ | refine wS ?_ | refine wP ?_ | refine wJ ?_ | refine wX ?_ | refine wY ?_))
                          clear hF
                          repeat refine evDone ?_
                          try (show AW _ _ _ _ _)
                          refine AW.ret (retI (r := .bool true) ⟨_, rfl, fun h => by cases h⟩ ?_)
                          simp [a10_res, resOk, resP, resV, ARes.op, R2s, R2, R1s, R1, closeOk, closeV]
                        · have hF := And.intro (h20) (hnl)
                          repeat (first | refine wD1 ?_ | refine wD2 ?_ | refine wE1 ?_ | refine wE2 ?_ | (refine wE3 ?_; intro _) | (refine wE4 ?_; intro _) | refine wN ?_ | ((with_reducible show evIs _ (_ :: _) _ _); first | refine wQ ?_ | refine wF ?_ | refine wG ?_ | refine wT ?_ | refine wM ?_ | refine wS ?_ | refine wP ?_ | refine wJ ?_ | refine wX ?_ | refine wY ?_))
                          clear hF
                          repeat refine evDone ?_
                          try (show AW _ _ _ _ _)
                          have hF := And.intro (h20) (hnl)
                          refine wB (hA := h11) ?_
                          clear hF
                          intro b _
                          cases b with
                          | true =>
                            have hF := h20
                            repeat (first | refine wD1 ?_ | refine wD2 ?_ | refine wE1 ?_ | refine wE2 ?_ | (refine wE3 ?_; intro _) | (refine wE4 ?_; intro _) | refine wN ?_ | ((with_reducible show evIs _ (_ :: _) _ _); first | refine wQ ?_ | refine wF ?_ | refine wG ?_ | refine wT ?_ | refine wM ?_ | refine wS ?_ | refine wP ?_ | refine wJ ?_ | refine wX ?_ | refine wY ?_))
                            clear hF
                            repeat refine evDone ?_
                            try (show AW _ _ _ _ _)
                            repeat refine AW.seq ?_
                            refine AW.condT (by simp [h20]) (by simp [h20]) ?_
                            repeat refine AW.seq ?_
                            refine AW.reg ?_
                            have hF := True.intro
                            repeat (first | refine wD1 ?_ | refine wD2 ?_ | refine wE1 ?_ | refine wE2 ?_ | (refine wE3 ?_; intro _) | (refine wE4 ?_; intro _) | refine wN ?_ | ((with_reducible show evIs _ (_ :: _) _ _); first | refine wQ ?_ | refine wF ?_ | refine wG ?_ | refine wT ?_ | refine wM ?_ | refine wS ?_ | refine wP ?_ | refine wJ ?_ | refine wX ?_ | refine wY ?_))
                            clear hF
                            repeat refine evDone ?_
                            try (show AW _ _ _ _ _)
                            refine AW.ret (retI (r := .bool true) ⟨_, rfl, fun h => by cases h⟩ ?_)
                            simp [a10_res, resOk, resP, resV, ARes.op, R2s, R2, R1s, R1, closeOk, closeV]
                          | false =>
                            have hF := h20
                            repeat (first | refine wD1 ?_ | refine wD2 ?_ | refine wE1 ?_ | refine wE2 ?_ | (refine wE3 ?_; intro _) | (refine wE4 ?_; intro _) | refine wN ?_ | ((with_reducible show evIs _ (_ :: _) _ _); first | refine wQ ?_ | refine wF ?_ | refine wG ?_ | refine wT ?_ | refine wM ?_ | refine wS ?_ | refine wP ?_ | refine wJ ?_ | refine wX ?_ | refine wY ?_))
                            clear hF
                            repeat refine evDone ?_
                            try (show AW _ _ _ _ _)
                            repeat refine AW.seq ?_
                            refine AW.condF (by simp [h20]) (by simp [h20]) ?_
                            refine AW.skip ?_
                            show AW _ _ _ _ _
                            refine AW.reg ?_
                            have hw : IntKind.i64.wrap ((i : Int) + 1) = (i : Int) + 1 := i64_in _ ⟨by omega, by omega⟩
                            have hF := hw
                            repeat (first | refine wD1 ?_ | refine wD2 ?_ | refine wE1 ?_ | refine wE2 ?_ | (refine wE3 ?_; intro _) | (refine wE4 ?_; intro _) | refine wN ?_ | ((with_reducible show evIs _ (_ :: _) _ _); first | refine wQ ?_ | refine wF ?_ | refine wG ?_ | refine wT ?_ | refine wM ?_ | refine wS ?_ | refine wP ?_ | refine wJ ?_ | refine wX ?_ | refine wY ?_))
                            clear hF
                            repeat refine evDone ?_
                            try (show AW _ _ _ _ _)
                            refine ⟨(i + 1, n + 100), ⟨by dsimp only; omega, by dsimp only; omega⟩, by dsimp only; omega, ?_⟩
                            refine Fit.mk _ _ _ (by simp [hw, conv2, newEmp, convs_refl, convs, conv]) (by simp [hw, heapFit, newEmp, conv2s, conv2, convs_refl, convs, conv]) (by intro q hq; first | (simp at hq; done) | (simp at hq; omega) | (simp at hq; simp; omega))
                      · have hlt2 : ¬ (i : Int) < us.length := by omega
                        have hF := And.intro (hlt) (hlt2)
                        repeat (first | refine wD1 ?_ | refine wD2 ?_ | refine wE1 ?_ | refine wE2 ?_ | (refine wE3 ?_; intro _) | (refine wE4 ?_; intro _) | refine wN ?_ | ((with_reducible show evIs _ (_ :: _) _ _); first | refine wQ ?_ | refine wF ?_ | refine wG ?_ | refine wT ?_ | refine wM ?_ | refine wS ?_ | refine wP ?_ | refine wJ ?_ | refine wX ?_ | refine wY ?_))
                        clear hF
                        repeat refine evDone ?_
                        try (show AW _ _ _ _ _)
                        repeat refine AW.seq ?_
                        refine AW.condF (by simp []) (by simp []) ?_
                        refine AW.exit ?_
                        show AW _ _ _ _ _
                        refine AW.reg ?_
                        have hw : IntKind.i64.wrap ((i1 : Int) + 1) = (i1 : Int) + 1 := i64_in _ ⟨by omega, by omega⟩
                        have hF := hw
                        repeat (first | refine wD1 ?_ | refine wD2 ?_ | refine wE1 ?_ | refine wE2 ?_ | (refine wE3 ?_; intro _) | (refine wE4 ?_; intro _) | refine wN ?_ | ((with_reducible show evIs _ (_ :: _) _ _); first | refine wQ ?_ | refine wF ?_ | refine wG ?_ | refine wT ?_ | refine wM ?_ | refine wS ?_ | refine wP ?_ | refine wJ ?_ | refine wX ?_ | refine wY ?_))
                        clear hF
                        repeat refine evDone ?_
                        try (show AW _ _ _ _ _)
                        refine ⟨(i1 + 1, n + 100), ⟨by dsimp only; omega, by dsimp only; omega⟩, by dsimp only; omega, ?_⟩
                        refine Fit.mk _ _ _ (by simp [hw, conv2, newEmp, convs_refl, convs, conv]) (by simp [hw, heapFit, newEmp, conv2s, conv2, convs_refl, convs, conv]) (by intro q hq; first | (simp at hq; done) | (simp at hq; omega) | (simp at hq; simp; omega))
              · have hlt2 : ¬ (i1 : Int) < marks.length := by omega
                have hF := And.intro (hlti1) (hlt2)
                repeat (first | refine wD1 ?_ | refine wD2 ?_ | refine wE1 ?_ | refine wE2 ?_ | (refine wE3 ?_; intro _) | (refine wE4 ?_; intro _) | refine wN ?_ | ((with_reducible show evIs _ (_ :: _) _ _); first | refine wQ ?_ | refine wF ?_ | refine wG ?_ | refine wT ?_ | refine wM ?_ | refine wS ?_ | refine wP ?_ | refine wJ ?_ | refine wX ?_ | refine wY ?_))
                clear hF
                repeat refine evDone ?_
                try (show AW _ _ _ _ _)
                repeat refine AW.seq ?_
                refine AW.condF (by simp []) (by simp []) ?_
                refine AW.exit ?_
                show AW _ _ _ _ _
                refine AW.reg ?_
                have hw : IntKind.i64.wrap ((i0 : Int) + 1) = (i0 : Int) + 1 := i64_in _ ⟨by omega, by omega⟩
                have hF := hw
                repeat (first | refine wD1 ?_ | refine wD2 ?_ | refine wE1 ?_ | refine wE2 ?_ | (refine wE3 ?_; intro _) | (refine wE4 ?_; intro _) | refine wN ?_ | ((with_reducible show evIs _ (_ :: _) _ _); first | refine wQ ?_ | refine wF ?_ | refine wG ?_ | refine wT ?_ | refine wM ?_ | refine wS ?_ | refine wP ?_ | refine wJ ?_ | refine wX ?_ | refine wY ?_))
                clear hF
                repeat refine evDone ?_
                try (show AW _ _ _ _ _)
                refine ⟨(i0 + 1, n + 100), ⟨by dsimp only; omega, by dsimp only; omega, mark_step hno0 hf (by dsimp only; omega)⟩, by dsimp only; omega, ?_⟩
                refine Fit.mk _ _ _ (by simp [hw, conv2, newEmp, convs_refl, convs, conv]) (by simp [hw, heapFit, newEmp, conv2s, conv2, convs_refl, convs, conv]) (by intro q hq; first | (simp at hq; done) | (simp at hq; omega) | (simp at hq; simp; omega))
      · have hlt2 : ¬ (i0 : Int) < ls.length := by omega
        have hF := And.intro (hlti0) (hlt2)
        repeat (first | refine wD1 ?_ | refine wD2 ?_ | refine wE1 ?_ | refine wE2 ?_ | (refine wE3 ?_; intro _) | (refine wE4 ?_; intro _) | refine wN ?_ | ((with_reducible show evIs _ (_ :: _) _ _); first | refine wQ ?_ | refine wF ?_ | refine wG ?_ | refine wT ?_ | refine wM ?_ | refine wS ?_ | refine wP ?_ | refine wJ ?_ | refine wX ?_ | refine wY ?_))
        clear hF
        repeat refine evDone ?_
        try (show AW _ _ _ _ _)
        repeat refine AW.seq ?_
        refine AW.condF (by simp []) (by simp []) ?_
        refine AW.exit ?_
        show AW _ _ _ _ _
        have hii : i0 = ls.length := by omega
        subst hii
        repeat refine AW.seq ?_
        refine AW.reg ?_
        have hF := True.intro
        repeat (first | refine wD1 ?_ | refine wD2 ?_ | refine wE1 ?_ | refine wE2 ?_ | (refine wE3 ?_; intro _) | (refine wE4 ?_; intro _) | refine wN ?_ | ((with_reducible show evIs _ (_ :: _) _ _); first | refine wQ ?_ | refine wF ?_ | refine wG ?_ | refine wT ?_ | refine wM ?_ | refine wS ?_ | refine wP ?_ | refine wJ ?_ | refine wX ?_ | refine wY ?_))
        clear hF
        repeat refine evDone ?_
        try (show AW _ _ _ _ _)
        refine AW.ret (retI (r := .bool false) ⟨_, rfl, fun _ => ⟨by omega, fun f hf => ?_⟩⟩ ?_)
        · obtain ⟨j, hj, rfl⟩ := List.getElem_of_mem hf
          exact hno j hj _ (List.getElem?_eq_getElem hj)
        simp [a10_res, resOk, resP, resV, ARes.op, R2s, R2, R1s, R1, closeOk, closeV]
end Go.Proofs.Ytafkaofaioleiaa

set_option linter.unusedSimpArgs false
set_option linter.unusedVariables false
set_option maxHeartbeats 8000000
namespace Go.Amb
@[simp] theorem conv2_refl {emp : Nat → Prop} (v : AV) : conv2 emp v v := by
  cases v <;> simp [conv2, conv, convs_refl]
@[simp] theorem conv2s_refl {emp : Nat → Prop} : ∀ vs : List AV, conv2s emp vs vs
  | [] => trivial
  | v :: vs => ⟨conv2_refl v, conv2s_refl vs⟩
end Go.Amb
namespace Go.Proofs.Ytafkaofaioleiaa
open Go Go.Amb Go.IntWalk

theorem f37 : ACall Try.prog 37 [] (· = .agg [.int .i64 (-1), .sl .fro []]) := by
  refine a37_of (by simp) ?_
  repeat refine AW.seq ?_
  refine AW.reg ?_
  have hF := True.intro
  repeat (first | refine wD1 ?_ | refine wD2 ?_ | refine wE1 ?_ | refine wE2 ?_ | (refine wE3 ?_; intro _) | (refine wE4 ?_; intro _) | refine wN ?_ | ((with_reducible show evIs _ (_ :: _) _ _); first | refine wQ ?_ | refine wF ?_ | refine wG ?_ | refine wT ?_ | refine wM ?_ | refine wS ?_ | refine wP ?_ | refine wJ ?_ | refine wX ?_ | refine wY ?_))
  clear hF
  repeat refine evDone ?_
  try (show AW _ _ _ _ _)
  repeat refine AW.seq ?_
  refine AW.reg ?_
  have hF := True.intro
  repeat (first | refine wD1 ?_ | refine wD2 ?_ | refine wE1 ?_ | refine wE2 ?_ | (refine wE3 ?_; intro _) | (refine wE4 ?_; intro _) | refine wN ?_ | ((with_reducible show evIs _ (_ :: _) _ _); first | refine wQ ?_ | refine wF ?_ | refine wG ?_ | refine wT ?_ | refine wM ?_ | refine wS ?_ | refine wP ?_ | refine wJ ?_ | refine wX ?_ | refine wY ?_))
  clear hF
  repeat refine evDone ?_
  try (show AW _ _ _ _ _)
  refine AW.ret (retI rfl ?_)
  simp [a37_res, resOk, resP, resV, ARes.op, R2s, R2, R1s, R1, closeOk, closeV]
theorem f43 : ACall Try.prog 43 [] (· = .agg [.int .i64 (-1), .sl .fro []]) := by
  refine a43_of (by simp) ?_
  repeat refine AW.seq ?_
  refine AW.reg ?_
  have hF := True.intro
  repeat (first | refine wD1 ?_ | refine wD2 ?_ | refine wE1 ?_ | refine wE2 ?_ | (refine wE3 ?_; intro _) | (refine wE4 ?_; intro _) | refine wN ?_ | ((with_reducible show evIs _ (_ :: _) _ _); first | refine wQ ?_ | refine wF ?_ | refine wG ?_ | refine wT ?_ | refine wM ?_ | refine wS ?_ | refine wP ?_ | refine wJ ?_ | refine wX ?_ | refine wY ?_))
  clear hF
  repeat refine evDone ?_
  try (show AW _ _ _ _ _)
  repeat refine AW.seq ?_
  refine AW.reg ?_
  have hF := True.intro
  repeat (first | refine wD1 ?_ | refine wD2 ?_ | refine wE1 ?_ | refine wE2 ?_ | (refine wE3 ?_; intro _) | (refine wE4 ?_; intro _) | refine wN ?_ | ((with_reducible show evIs _ (_ :: _) _ _); first | refine wQ ?_ | refine wF ?_ | refine wG ?_ | refine wT ?_ | refine wM ?_ | refine wS ?_ | refine wP ?_ | refine wJ ?_ | refine wX ?_ | refine wY ?_))
  clear hF
  repeat refine evDone ?_
  try (show AW _ _ _ _ _)
  refine AW.ret (retI rfl ?_)
  simp [a43_res, resOk, resP, resV, ARes.op, R2s, R2, R1s, R1, closeOk, closeV]
theorem f34_nil (N R : Nat) : BCall Try.prog 34 [] N [.hdr R 0 0] (fun H1 n' v => H1 = [] ∧ n' = N ∧ v = .tup [.nilp, .nilp]) := by
  refine bcall_coded a34_ok (by simp) ?_
  repeat refine AW.seq ?_
  refine AW.reg ?_
  have hF := True.intro
  repeat (first | refine wD1 ?_ | refine wD2 ?_ | refine wE1 ?_ | refine wE2 ?_ | (refine wE3 ?_; intro _) | (refine wE4 ?_; intro _) | refine wN ?_ | ((with_reducible show evIs _ (_ :: _) _ _); first | refine wQ ?_ | refine wF ?_ | refine wG ?_ | refine wT ?_ | refine wM ?_ | refine wS ?_ | refine wP ?_ | refine wJ ?_ | refine wX ?_ | refine wY ?_))
  clear hF
  repeat refine evDone ?_
  try (show AW _ _ _ _ _)
  repeat refine AW.seq ?_
  refine AW.reg ?_
  have hF := True.intro
  repeat (first | refine wD1 ?_ | refine wD2 ?_ | refine wE1 ?_ | refine wE2 ?_ | (refine wE3 ?_; intro _) | (refine wE4 ?_; intro _) | refine wN ?_ | ((with_reducible show evIs _ (_ :: _) _ _); first | refine wQ ?_ | refine wF ?_ | refine wG ?_ | refine wT ?_ | refine wM ?_ | refine wS ?_ | refine wP ?_ | refine wJ ?_ | refine wX ?_ | refine wY ?_))
  clear hF
  repeat refine evDone ?_
  try (show AW _ _ _ _ _)
  repeat refine AW.seq ?_
  refine AW.condT (by simp []) (by simp []) ?_
  repeat refine AW.seq ?_
  refine AW.reg ?_
  have hF := True.intro
  repeat (first | refine wD1 ?_ | refine wD2 ?_ | refine wE1 ?_ | refine wE2 ?_ | (refine wE3 ?_; intro _) | (refine wE4 ?_; intro _) | refine wN ?_ | ((with_reducible show evIs _ (_ :: _) _ _); first | refine wQ ?_ | refine wF ?_ | refine wG ?_ | refine wT ?_ | refine wM ?_ | refine wS ?_ | refine wP ?_ | refine wJ ?_ | refine wX ?_ | refine wY ?_))
  clear hF
  repeat refine evDone ?_
  try (show AW _ _ _ _ _)
  refine AW.ret ⟨by simp [resP, a34_res, ARes.op], [], N, [.nilp, .nilp], ⟨rfl, rfl, rfl⟩, by omega, by simp, rfl, by simp, ?_⟩
  simp only [resV, a34_res, List.map_cons, List.map_nil, ARes.op]
  refine Fit.mk _ _ _ (by simp [conv2, newEmp, convs_refl, convs, conv]) (by simp [heapFit, newEmp, conv2s, conv2, convs_refl, convs, conv]) (by intro q hq; first | (simp at hq; done) | (simp at hq; omega) | (simp at hq; simp; omega))
theorem f34_none (N R S M k ns : Nat) (es : List AV) (fn pc : Int) (stack : List Val) (hk : es.length = k + 1) (he : elemAt es k = .agg [.int .i64 fn, .int .i64 pc, .hdr S 0 ns, .sl .fro (avs stack), .hdr M 0 0]) (hl : k < 1000000) (hR : R < N) :
    BCall Try.prog 34 [(R, ⟨5, true, es⟩)] N [.hdr R 0 (k + 1)] (fun H1 n' v => H1 = [(R, ⟨5, true, es⟩)] ∧ n' = N ∧ v = .tup [.ptr R k 0, .nilp]) := by
  have h1 : ¬ (k : Int) + 1 = 0 := by omega
  have hw : IntKind.i64.wrap (k : Int) = (k : Int) := i64_in _ ⟨by omega, by omega⟩
  have h2 : (0 : Int) ≤ k := by omega
  have h3 : (k : Int) < (k : Int) + 1 := by omega
  have h4 : es ≠ [] := by intro h; rw [h] at hk; simp at hk
  refine bcall_coded a34_ok (by simp) ?_
  repeat refine AW.seq ?_
  refine AW.reg ?_
  have hF := True.intro
  repeat (first | refine wD1 ?_ | refine wD2 ?_ | refine wE1 ?_ | refine wE2 ?_ | (refine wE3 ?_; intro _) | (refine wE4 ?_; intro _) | refine wN ?_ | ((with_reducible show evIs _ (_ :: _) _ _); first | refine wQ ?_ | refine wF ?_ | refine wG ?_ | refine wT ?_ | refine wM ?_ | refine wS ?_ | refine wP ?_ | refine wJ ?_ | refine wX ?_ | refine wY ?_))
  clear hF
  repeat refine evDone ?_
  try (show AW _ _ _ _ _)
  repeat refine AW.seq ?_
  refine AW.reg ?_
  have hF := h1
  repeat (first | refine wD1 ?_ | refine wD2 ?_ | refine wE1 ?_ | refine wE2 ?_ | (refine wE3 ?_; intro _) | (refine wE4 ?_; intro _) | refine wN ?_ | ((with_reducible show evIs _ (_ :: _) _ _); first | refine wQ ?_ | refine wF ?_ | refine wG ?_ | refine wT ?_ | refine wM ?_ | refine wS ?_ | refine wP ?_ | refine wJ ?_ | refine wX ?_ | refine wY ?_))
  clear hF
  repeat refine evDone ?_
  try (show AW _ _ _ _ _)
  repeat refine AW.seq ?_
  refine AW.condF (by simp [h1]) (by simp [h1]) ?_
  refine AW.skip ?_
  show AW _ _ _ _ _
  repeat refine AW.seq ?_
  refine AW.reg ?_
  have hF := And.intro (hw) (And.intro (h1) (And.intro (h2) (And.intro (h3) (hk))))
  repeat (first | refine wD1 ?_ | refine wD2 ?_ | refine wE1 ?_ | refine wE2 ?_ | (refine wE3 ?_; intro _) | (refine wE4 ?_; intro _) | refine wN ?_ | ((with_reducible show evIs _ (_ :: _) _ _); first | refine wQ ?_ | refine wF ?_ | refine wG ?_ | refine wT ?_ | refine wM ?_ | refine wS ?_ | refine wP ?_ | refine wJ ?_ | refine wX ?_ | refine wY ?_))
  clear hF
  repeat refine evDone ?_
  try (show AW _ _ _ _ _)
  repeat refine AW.seq ?_
  refine AW.reg ?_
  have hF := And.intro (hw) (And.intro (h2) (And.intro (h3) (And.intro (hk) (he))))
  repeat (first | refine wD1 ?_ | refine wD2 ?_ | refine wE1 ?_ | refine wE2 ?_ | (refine wE3 ?_; intro _) | (refine wE4 ?_; intro _) | refine wN ?_ | ((with_reducible show evIs _ (_ :: _) _ _); first | refine wQ ?_ | refine wF ?_ | refine wG ?_ | refine wT ?_ | refine wM ?_ | refine wS ?_ | refine wP ?_ | refine wJ ?_ | refine wX ?_ | refine wY ?_))
  clear hF
  repeat refine evDone ?_
  try (show AW _ _ _ _ _)
  repeat refine AW.seq ?_
  refine AW.condT (by simp []) (by simp []) ?_
  repeat refine AW.seq ?_
  refine AW.reg ?_
  have hF := True.intro
  repeat (first | refine wD1 ?_ | refine wD2 ?_ | refine wE1 ?_ | refine wE2 ?_ | (refine wE3 ?_; intro _) | (refine wE4 ?_; intro _) | refine wN ?_ | ((with_reducible show evIs _ (_ :: _) _ _); first | refine wQ ?_ | refine wF ?_ | refine wG ?_ | refine wT ?_ | refine wM ?_ | refine wS ?_ | refine wP ?_ | refine wJ ?_ | refine wX ?_ | refine wY ?_))
  clear hF
  repeat refine evDone ?_
  try (show AW _ _ _ _ _)
  refine AW.ret ⟨by simp [resP, a34_res, ARes.op], [(R, ⟨5, true, es⟩)], N, [.ptr R k 0, .nilp], ⟨rfl, rfl, rfl⟩, by omega, by simp, rfl, by simp, ?_⟩
  simp only [resV, a34_res, List.map_cons, List.map_nil, ARes.op]
  refine Fit.mk _ _ _ (by simp [hR, conv2, newEmp, convs_refl, convs, conv]) (by simp [hR, heapFit, newEmp, conv2s, conv2, convs_refl, convs, conv]) (by intro q hq; first | (simp at hq; done) | (simp at hq; omega) | (simp at hq; simp; omega))
theorem f34_some (N R S M k j ns : Nat) (es ms : List AV) (bM : Bool) (fn pc : Int) (stack : List Val) (hk : es.length = k + 1) (he : elemAt es k = .agg [.int .i64 fn, .int .i64 pc, .hdr S 0 ns, .sl .fro (avs stack), .hdr M 0 (j + 1)]) (hm : ms.length = j + 1) (hl : k < 1000000) (hj : j < 1000000000000) (hR : R < N) (hM : M < N) (hRM : R ≠ M) :
    BCall Try.prog 34 [(R, ⟨5, true, es⟩), (M, ⟨10, bM, ms⟩)] N [.hdr R 0 (k + 1)] (fun H1 n' v => H1 = [(R, ⟨5, true, es⟩), (M, ⟨10, bM, ms⟩)] ∧ n' = N ∧ v = .tup [.ptr R k 0, .ptr M j 0]) := by
  have h1 : ¬ (k : Int) + 1 = 0 := by omega
  have h1' : ¬ (j : Int) + 1 = 0 := by omega
  have hw : IntKind.i64.wrap (k : Int) = (k : Int) := i64_in _ ⟨by omega, by omega⟩
  have hw' : IntKind.i64.wrap (j : Int) = (j : Int) := i64_in _ ⟨by omega, by omega⟩
  have h2 : (0 : Int) ≤ k := by omega
  have h2' : (0 : Int) ≤ j := by omega
  have h3 : (k : Int) < (k : Int) + 1 := by omega
  have h3' : (j : Int) < (j : Int) + 1 := by omega
  have h5 : (R = M) = False ∧ (M = R) = False := ⟨eq_false hRM, eq_false fun e => hRM e.symm⟩
  refine bcall_coded a34_ok (by simp) ?_
  repeat refine AW.seq ?_
  refine AW.reg ?_
  have hF := True.intro
  repeat (first | refine wD1 ?_ | refine wD2 ?_ | refine wE1 ?_ | refine wE2 ?_ | (refine wE3 ?_; intro _) | (refine wE4 ?_; intro _) | refine wN ?_ | ((with_reducible show evIs _ (_ :: _) _ _); first | refine wQ ?_ | refine wF ?_ | refine wG ?_ | refine wT ?_ | refine wM ?_ | refine wS ?_ | refine wP ?_ | refine wJ ?_ | refine wX ?_ | refine wY ?_))
  clear hF
  repeat refine evDone ?_
  try (show AW _ _ _ _ _)
  repeat refine AW.seq ?_
  refine AW.reg ?_
  have hF := h1
  repeat (first | refine wD1 ?_ | refine wD2 ?_ | refine wE1 ?_ | refine wE2 ?_ | (refine wE3 ?_; intro _) | (refine wE4 ?_; intro _) | refine wN ?_ | ((with_reducible show evIs _ (_ :: _) _ _); first | refine wQ ?_ | refine wF ?_ | refine wG ?_ | refine wT ?_ | refine wM ?_ | refine wS ?_ | refine wP ?_ | refine wJ ?_ | refine wX ?_ | refine wY ?_))
  clear hF
  repeat refine evDone ?_
  try (show AW _ _ _ _ _)
  repeat refine AW.seq ?_
  refine AW.condF (by simp [h1]) (by simp [h1]) ?_
  refine AW.skip ?_
  show AW _ _ _ _ _
  repeat refine AW.seq ?_
  refine AW.reg ?_
  have hF := And.intro (hw) (And.intro (h1) (And.intro (h2) (And.intro (h3) (And.intro (hk) (h5)))))
  repeat (first | refine wD1 ?_ | refine wD2 ?_ | refine wE1 ?_ | refine wE2 ?_ | (refine wE3 ?_; intro _) | (refine wE4 ?_; intro _) | refine wN ?_ | ((with_reducible show evIs _ (_ :: _) _ _); first | refine wQ ?_ | refine wF ?_ | refine wG ?_ | refine wT ?_ | refine wM ?_ | refine wS ?_ | refine wP ?_ | refine wJ ?_ | refine wX ?_ | refine wY ?_))
  clear hF
  repeat refine evDone ?_
  try (show AW _ _ _ _ _)
  repeat refine AW.seq ?_
  refine AW.reg ?_
  have hF := And.intro (hw) (And.intro (h2) (And.intro (h3) (And.intro (hk) (And.intro (he) (And.intro (h1') (h5))))))
  repeat (first | refine wD1 ?_ | refine wD2 ?_ | refine wE1 ?_ | refine wE2 ?_ | (refine wE3 ?_; intro _) | (refine wE4 ?_; intro _) | refine wN ?_ | ((with_reducible show evIs _ (_ :: _) _ _); first | refine wQ ?_ | refine wF ?_ | refine wG ?_ | refine wT ?_ | refine wM ?_ | refine wS ?_ | refine wP ?_ | refine wJ ?_ | refine wX ?_ | refine wY ?_))
  clear hF
  repeat refine evDone ?_
  try (show AW _ _ _ _ _)
  repeat refine AW.seq ?_
  refine AW.condF (by simp [h1']) (by simp [h1']) ?_
  refine AW.skip ?_
  show AW _ _ _ _ _
  repeat refine AW.seq ?_
  refine AW.draw ?_
  have hF := And.intro (hw) (And.intro (hw') (And.intro (h2) (And.intro (h3) (And.intro (h2') (And.intro (h3') (And.intro (hk) (And.intro (hm) (And.intro (he) (h5)))))))))
  repeat (first | refine wD1 ?_ | refine wD2 ?_ | refine wE1 ?_ | refine wE2 ?_ | (refine wE3 ?_; intro _) | (refine wE4 ?_; intro _) | refine wN ?_ | ((with_reducible show evIs _ (_ :: _) _ _); first | refine wQ ?_ | refine wF ?_ | refine wG ?_ | refine wT ?_ | refine wM ?_ | refine wS ?_ | refine wP ?_ | refine wJ ?_ | refine wX ?_ | refine wY ?_))
  clear hF
  repeat refine evDone ?_
  try (show AW _ _ _ _ _)
  refine AW.ret ⟨by simp [resP, a34_res, ARes.op], [(R, ⟨5, true, es⟩), (M, ⟨10, bM, ms⟩)], N, [.ptr R k 0, .ptr M j 0], ⟨rfl, rfl, rfl⟩, by omega, by simp [h5], rfl, by simp, ?_⟩
  simp only [resV, a34_res, List.map_cons, List.map_nil, ARes.op]
  refine Fit.mk _ _ _ (by simp [hR, hM, h5, conv2, newEmp, convs_refl, convs, conv]) (by simp [hR, hM, h5, heapFit, newEmp, conv2s, conv2, convs_refl, convs, conv]) (by intro q hq; first | (simp at hq; done) | (simp at hq; omega) | (simp at hq; simp; omega))
theorem f36 (N R S M k j ns : Nat) (es ms : List AV) (bM : Bool) (fn pc : Int) (stack : List Val) (hk : es.length = k + 1) (he : elemAt es k = .agg [.int .i64 fn, .int .i64 pc, .hdr S 0 ns, .sl .fro (avs stack), .hdr M 0 (j + 1)]) (hm : ms.length = j + 1) (hj : j < 1000000000000) (hR : R < N) (hM : M < N) (hRM : R ≠ M) :
    BCall Try.prog 36 [(R, ⟨5, true, es⟩), (M, ⟨10, bM, ms⟩)] N [.ptr R k 0] (fun H1 n' v => H1 = [(R, ⟨5, true, es.set k (.agg [.int .i64 fn, .int .i64 pc, .hdr S 0 ns, .sl .fro (avs stack), .hdr M 0 j])⟩), (M, ⟨10, bM, ms⟩)] ∧ n' = N ∧ v = .tup []) := by
  have hw' : IntKind.i64.wrap (j : Int) = (j : Int) := i64_in _ ⟨by omega, by omega⟩
  have h2' : (0 : Int) ≤ j := by omega
  have h3' : (j : Int) ≤ (j : Int) + 1 := by omega
  have h4' : j ≤ j + 1 := by omega
  have h3 : k < k + 1 := by omega
  have h5 : (R = M) = False ∧ (M = R) = False := ⟨eq_false hRM, eq_false fun e => hRM e.symm⟩
  refine bcall_coded a36_ok (by simp) ?_
  repeat refine AW.seq ?_
  refine AW.draw ?_
  have hF := And.intro (hw') (And.intro (h2') (And.intro (h3') (And.intro (h4') (And.intro (h3) (And.intro (hk) (And.intro (hm) (And.intro (he) (h5))))))))
  repeat (first | refine wD1 ?_ | refine wD2 ?_ | refine wE1 ?_ | refine wE2 ?_ | (refine wE3 ?_; intro _) | (refine wE4 ?_; intro _) | refine wN ?_ | ((with_reducible show evIs _ (_ :: _) _ _); first | refine wQ ?_ | refine wF ?_ | refine wG ?_ | refine wT ?_ | refine wM ?_ | refine wS ?_ | refine wP ?_ | refine wJ ?_ | refine wX ?_ | refine wY ?_))
  clear hF
  repeat refine evDone ?_
  try (show AW _ _ _ _ _)
  refine ⟨by simp [resP, a36_res, ARes.op], [(R, ⟨5, true, es.set k (.agg [.int .i64 fn, .int .i64 pc, .hdr S 0 ns, .sl .fro (avs stack), .hdr M 0 j])⟩), (M, ⟨10, bM, ms⟩)], N, [], ⟨rfl, rfl, rfl⟩, by omega, by simp [h5], rfl, by simp, ?_⟩
  simp only [resV, a36_res, List.map_cons, List.map_nil, ARes.op]
  refine Fit.mk _ _ _ (by simp [hR, hM, h5, conv2, newEmp, convs_refl, convs, conv]) (by simp [hR, hM, h5, heapFit, newEmp, conv2s, conv2, convs_refl, convs, conv]) (by intro q hq; first | (simp at hq; done) | (simp at hq; omega) | (simp at hq; simp; omega))
end Go.Proofs.Ytafkaofaioleiaa
