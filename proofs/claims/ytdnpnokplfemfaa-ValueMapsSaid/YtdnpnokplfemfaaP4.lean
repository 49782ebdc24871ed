/- Contracts of chapter 2's functions: Put at a map. -/
import Derived.Test.YtdnpnokplfemfaaP3

set_option linter.unusedSimpArgs false
set_option linter.unusedVariables false
set_option maxHeartbeats 8000000
namespace Go.Proofs.Ytdnpnokplfemfaa
open Go Go.Amb Go.IntWalk

theorem insL_set {α : Type} {l : List α} {pos : Nat} {x : α} (h : pos < l.length) : insL l pos 1 x = l.set pos x := by
  unfold insL
  rw [List.set_eq_take_append_cons_drop, if_pos h]
theorem insL_same {α : Type} {l : List α} {pos : Nat} {x : α} (h : l[pos]? = some x) : insL l pos 1 x = l := by
  obtain ⟨hl, rfl⟩ := List.getElem?_eq_some_iff.1 h
  rw [insL_set hl, List.set_getElem_self]
/-- What Put gives at a map: its rows its own. -/
abbrev putO (is : List Val) (ks : List ByteArray) (p : ByteArray) (x : Val) : AV := cond (winV (putV is ks p x)) (.tup [.agg [.int .i64 5, .int .i64 0, .str ⟨#[]⟩, .sl (.own 5) (avs (insL is (posK ks p) (hasK ks p) x)), .sl (.own 1) ((insL ks (posK ks p) (hasK ks p) p).map .str)], .int .i64 0]) (.tup [.agg [.int .i64 0, .int .i64 0, .str ⟨#[]⟩, .sl .fro [], .sl .fro []], .int .i64 6])
theorem f52y (is : List Val) (ks : List ByteArray) (p : ByteArray) (xk xn : Int) (xt : ByteArray) (xi : List Val) (xs : List ByteArray) (hok : (Val.mk 5 0 ⟨#[]⟩ is ks).okv) (hox : (Val.mk xk xn xt xi xs).okv) (hw : wfV true (.mk 5 0 ⟨#[]⟩ is ks) = true) (hb : szs is ≤ 400000) (hb2 : (Val.mk xk xn xt xi xs).sz ≤ 400000) :
    ACall Try.prog 52 [.agg [.int .i64 5, .int .i64 0, .str ⟨#[]⟩, .sl .fro (avs is), .sl .fro (ks.map .str)], .str p, .agg [.int .i64 xk, .int .i64 xn, .str xt, .sl .fro (avs xi), .sl .fro (xs.map .str)]] (· = putO is ks p (.mk xk xn xt xi xs)) := by
  obtain ⟨-, -, hlen, hr⟩ := wf_map hw
  have hil := szs_len is
  have h81 := f81y is ks p hok hw (by omega)
  have h20 := c20 500 is ks hok
  have h20x := f20 xk xn xt xi xs hox
  have hxa : avs [Val.mk xk xn xt xi xs] = [.agg [.int .i64 xk, .int .i64 xn, .str xt, .sl .fro (avs xi), .sl .fro (xs.map .str)]] := by simp [avs, Val.av]
  simp only [Val.okv] at hok
  have hpo := put_ok (is := is) (ks := ks) (p := p) (x := .mk xk xn xt xi xs) hok.2.2 hox (by omega) (by omega)
  have hps : (putV is ks p (.mk xk xn xt xi xs)).sz ≤ 1000000 := by
    simp only [putV, Val.sz]
    have := szs_ins is (posK ks p) (hasK ks p) (.mk xk xn xt xi xs)
    omega
  have h66 := f66 _ hpo hps
  clear hpo hps
  have hcx := clC_avs xi
  have hcxs := strs_cl xs
  unfold putO
  simp only [putV, Val.av, List.length_map, avs_length] at h66 h20 ⊢
  have hple := posK_le ks p
  by_cases hf : ks[posK ks p]? = some p
  · have hh : hasK ks p = 1 := by unfold hasK; rw [if_pos hf]
    have hlt : posK ks p < ks.length := (List.getElem?_eq_some_iff.1 hf).1
    have hd : decide (ks[posK ks p]? = some p) = true := by simp [hf]
    rw [hd] at h81
    rw [hh] at h66 ⊢
    have hks : insL ks (posK ks p) 1 p = ks := insL_same hf
    rw [hks] at h66 ⊢
    have his : avs (insL is (posK ks p) 1 (.mk xk xn xt xi xs)) = (avs is).set (posK ks p) (.agg [.int .i64 xk, .int .i64 xn, .str xt, .sl .fro (avs xi), .sl .fro (xs.map .str)]) := by rw [insL_set (by omega), vals_map, List.map_set, ← vals_map]; rfl
    rw [his] at h66 ⊢
    generalize winV (.mk 5 0 ⟨#[]⟩ (insL is (posK ks p) 1 (.mk xk xn xt xi xs)) ks) = wn at *
    generalize posK ks p = pos at *
    have hlti : pos < is.length := by omega
    have hlti' : (pos : Int) < is.length := by omega
    have hz : (0 : Int) ≤ pos := by omega
    obtain ⟨y, hy⟩ : ∃ y, is[pos]? = some y := ⟨_, List.getElem?_eq_getElem hlti⟩
    have he := elem_map (f := Val.av) hy
    rw [← vals_map] at he
    obtain ⟨yk, yn, yt, yi, ys⟩ := y
    simp only [Val.av] at he
    refine a52_of (by simp) ?_
    have hF := True.intro
    repeat (first | ((with_reducible show AW _ _ _ _ _); first | refine AW.seq ?_ | refine AW.block ?_ | refine AW.reg ?_ | refine AW.draw ?_ | refine wct ?_ | refine wcf ?_ | (refine AW.skip ?_; show AW _ _ _ _ _)) | refine wD1 ?_ | refine wD2 ?_ | refine wE1 ?_ | refine wE2 ?_ | (refine wE3 ?_; intro _) | (refine wE4 ?_; intro _) | refine wN ?_ | ((with_reducible show evIs _ (_ :: _) _ _); first | refine wQ ?_ | refine wF ?_ | refine wG ?_ | refine wT ?_ | refine wM ?_ | refine wS ?_ | refine wP ?_ | refine wJ ?_ | refine wX ?_ | refine wY ?_ | refine wZ ?_ | refine wU ?_ | refine wCp ?_ | refine wCp0 ?_ | refine wApz ?_ | (refine wCap ?_; intro qc hqc)) | refine evDone ?_ | ((fail_if_success with_reducible show AW _ _ _ _ _); show AW _ _ _ _ _))
    clear hF
    try (show AW _ _ _ _ _)
    have hF := True.intro
    refine wC (hA := h81) ?_
    clear hF
    have hF := True.intro
    repeat (first | ((with_reducible show AW _ _ _ _ _); first | refine AW.seq ?_ | refine AW.block ?_ | refine AW.reg ?_ | refine AW.draw ?_ | refine wct ?_ | refine wcf ?_ | (refine AW.skip ?_; show AW _ _ _ _ _)) | refine wD1 ?_ | refine wD2 ?_ | refine wE1 ?_ | refine wE2 ?_ | (refine wE3 ?_; intro _) | (refine wE4 ?_; intro _) | refine wN ?_ | ((with_reducible show evIs _ (_ :: _) _ _); first | refine wQ ?_ | refine wF ?_ | refine wG ?_ | refine wT ?_ | refine wM ?_ | refine wS ?_ | refine wP ?_ | refine wJ ?_ | refine wX ?_ | refine wY ?_ | refine wZ ?_ | refine wU ?_ | refine wCp ?_ | refine wCp0 ?_ | refine wApz ?_ | (refine wCap ?_; intro qc hqc)) | refine evDone ?_ | ((fail_if_success with_reducible show AW _ _ _ _ _); show AW _ _ _ _ _))
    clear hF
    try (show AW _ _ _ _ _)
    have hF := True.intro
    refine wL (hA := h20) ?_
    clear hF
    rintro H1 n' v ⟨rfl, rfl, rfl⟩
    have hF := And.intro (hlti) (And.intro (hlti') (hz))
    repeat (first | ((with_reducible show AW _ _ _ _ _); first | refine AW.seq ?_ | refine AW.block ?_ | refine AW.reg ?_ | refine AW.draw ?_ | refine wct ?_ | refine wcf ?_ | (refine AW.skip ?_; show AW _ _ _ _ _)) | refine wD1 ?_ | refine wD2 ?_ | refine wE1 ?_ | refine wE2 ?_ | (refine wE3 ?_; intro _) | (refine wE4 ?_; intro _) | refine wN ?_ | ((with_reducible show evIs _ (_ :: _) _ _); first | refine wQ ?_ | refine wF ?_ | refine wG ?_ | refine wT ?_ | refine wM ?_ | refine wS ?_ | refine wP ?_ | refine wJ ?_ | refine wX ?_ | refine wY ?_ | refine wZ ?_ | refine wU ?_ | refine wCp ?_ | refine wCp0 ?_ | refine wApz ?_ | (refine wCap ?_; intro qc hqc)) | refine evDone ?_ | ((fail_if_success with_reducible show AW _ _ _ _ _); show AW _ _ _ _ _))
    clear hF
    try (show AW _ _ _ _ _)
    have hF := And.intro (hcx) (hcxs)
    refine wC (hA := h20x) ?_
    clear hF
    have hF := And.intro (hlti) (And.intro (hlti') (And.intro (hz) (he)))
    repeat (first | ((with_reducible show AW _ _ _ _ _); first | refine AW.seq ?_ | refine AW.block ?_ | refine AW.reg ?_ | refine AW.draw ?_ | refine wct ?_ | refine wcf ?_ | (refine AW.skip ?_; show AW _ _ _ _ _)) | refine wD1 ?_ | refine wD2 ?_ | refine wE1 ?_ | refine wE2 ?_ | (refine wE3 ?_; intro _) | (refine wE4 ?_; intro _) | refine wN ?_ | ((with_reducible show evIs _ (_ :: _) _ _); first | refine wQ ?_ | refine wF ?_ | refine wG ?_ | refine wT ?_ | refine wM ?_ | refine wS ?_ | refine wP ?_ | refine wJ ?_ | refine wX ?_ | refine wY ?_ | refine wZ ?_ | refine wU ?_ | refine wCp ?_ | refine wCp0 ?_ | refine wApz ?_ | (refine wCap ?_; intro qc hqc)) | refine evDone ?_ | ((fail_if_success with_reducible show AW _ _ _ _ _); show AW _ _ _ _ _))
    clear hF
    try (show AW _ _ _ _ _)
    have ht1 : ((avs is).set pos (.agg [.int .i64 xk, .int .i64 xn, .str xt, .sl .fro (avs xi), .sl .fro (xs.map .str)])).take is.length = (avs is).set pos (.agg [.int .i64 xk, .int .i64 xn, .str xt, .sl .fro (avs xi), .sl .fro (xs.map .str)]) := List.take_of_length_le (by simp)
    have ht2 : (ks.map AV.str).take ks.length = ks.map AV.str := List.take_of_length_le (by simp)
    have hl1 : ((avs is).set pos (.agg [.int .i64 xk, .int .i64 xn, .str xt, .sl .fro (avs xi), .sl .fro (xs.map .str)])).length = is.length := by simp
    have hcks := strs_cl ks
    have hF := And.intro (ht1) (And.intro (ht2) (And.intro (hl1) (hcks)))
    refine wC (hA := h66) ?_
    clear hF
    cases wn with
    | true =>
      have hF := True.intro
      repeat (first | ((with_reducible show AW _ _ _ _ _); first | refine AW.seq ?_ | refine AW.block ?_ | refine AW.reg ?_ | refine AW.draw ?_ | refine wct ?_ | refine wcf ?_ | (refine AW.skip ?_; show AW _ _ _ _ _)) | refine wD1 ?_ | refine wD2 ?_ | refine wE1 ?_ | refine wE2 ?_ | (refine wE3 ?_; intro _) | (refine wE4 ?_; intro _) | refine wN ?_ | ((with_reducible show evIs _ (_ :: _) _ _); first | refine wQ ?_ | refine wF ?_ | refine wG ?_ | refine wT ?_ | refine wM ?_ | refine wS ?_ | refine wP ?_ | refine wJ ?_ | refine wX ?_ | refine wY ?_ | refine wZ ?_ | refine wU ?_ | refine wCp ?_ | refine wCp0 ?_ | refine wApz ?_ | (refine wCap ?_; intro qc hqc)) | refine evDone ?_ | ((fail_if_success with_reducible show AW _ _ _ _ _); show AW _ _ _ _ _))
      clear hF
      try (show AW _ _ _ _ _)
      refine AW.ret (retI rfl ?_)
      simp [ht1, ht2, hl1, a52_res, resOk, resP, resV, ARes.op, R2s, R2, R1s, R1, closeOk, closeV]
    | false =>
      have hF := True.intro
      repeat (first | ((with_reducible show AW _ _ _ _ _); first | refine AW.seq ?_ | refine AW.block ?_ | refine AW.reg ?_ | refine AW.draw ?_ | refine wct ?_ | refine wcf ?_ | (refine AW.skip ?_; show AW _ _ _ _ _)) | refine wD1 ?_ | refine wD2 ?_ | refine wE1 ?_ | refine wE2 ?_ | (refine wE3 ?_; intro _) | (refine wE4 ?_; intro _) | refine wN ?_ | ((with_reducible show evIs _ (_ :: _) _ _); first | refine wQ ?_ | refine wF ?_ | refine wG ?_ | refine wT ?_ | refine wM ?_ | refine wS ?_ | refine wP ?_ | refine wJ ?_ | refine wX ?_ | refine wY ?_ | refine wZ ?_ | refine wU ?_ | refine wCp ?_ | refine wCp0 ?_ | refine wApz ?_ | (refine wCap ?_; intro qc hqc)) | refine evDone ?_ | ((fail_if_success with_reducible show AW _ _ _ _ _); show AW _ _ _ _ _))
      clear hF
      try (show AW _ _ _ _ _)
      refine AW.ret (retI rfl ?_)
      simp [a52_res, resOk, resP, resV, ARes.op, R2s, R2, R1s, R1, closeOk, closeV]
  · have hh : hasK ks p = 0 := by unfold hasK; rw [if_neg hf]
    have hd : decide (ks[posK ks p]? = some p) = false := by simp [hf]
    rw [hd] at h81
    rw [hh] at h66 ⊢
    generalize posK ks p = pos at *
    have hlti : pos ≤ is.length := by omega
    have hA1 : (ks.take pos).map AV.str ++ (ks.drop pos).map AV.str = ks.map AV.str := by rw [← List.map_append, List.take_append_drop]
    have hA2 : ((ks.take pos).map AV.str).length = pos := by simp; omega
    have hA3 : ((ks.take pos).map AV.str).length + ((ks.drop pos).map AV.str).length = ks.length := by simp; omega
    have hB1 : avs (is.take pos) ++ avs (is.drop pos) = avs is := by rw [← avs_append, List.take_append_drop]
    have hB2 : (avs (is.take pos)).length = pos := by simp; omega
    have hB3 : (avs (is.take pos)).length + (avs (is.drop pos)).length = is.length := by simp; omega
    have h82 := f82 600 501 ((ks.take pos).map AV.str) ((ks.drop pos).map AV.str) p (by omega) (by rw [hA3]; omega) (by rw [hA1]; simp) (by rw [hA1]; intro c hc; rw [flat_str] at hc; obtain ⟨s, _, rfl⟩ := List.mem_map.1 hc; rfl)
    have h83 := f83 800 500 (avs (is.take pos)) (avs (is.drop pos)) xk xn xt (avs xi) (xs.map .str) (by omega) (by rw [hB3]; omega) (by rw [hB1]; intro x hx; rw [vals_map] at hx; obtain ⟨v, _, rfl⟩ := List.mem_map.1 hx; simp) (by rw [hB1]; exact avs_shr is)
    rw [hA1, hA3, hA2] at h82
    rw [hB1, hB3, hB2] at h83
    refine a52_of (by simp) ?_
    have hF := True.intro
    repeat (first | ((with_reducible show AW _ _ _ _ _); first | refine AW.seq ?_ | refine AW.block ?_ | refine AW.reg ?_ | refine AW.draw ?_ | refine wct ?_ | refine wcf ?_ | (refine AW.skip ?_; show AW _ _ _ _ _)) | refine wD1 ?_ | refine wD2 ?_ | refine wE1 ?_ | refine wE2 ?_ | (refine wE3 ?_; intro _) | (refine wE4 ?_; intro _) | refine wN ?_ | ((with_reducible show evIs _ (_ :: _) _ _); first | refine wQ ?_ | refine wF ?_ | refine wG ?_ | refine wT ?_ | refine wM ?_ | refine wS ?_ | refine wP ?_ | refine wJ ?_ | refine wX ?_ | refine wY ?_ | refine wZ ?_ | refine wU ?_ | refine wCp ?_ | refine wCp0 ?_ | refine wApz ?_ | (refine wCap ?_; intro qc hqc)) | refine evDone ?_ | ((fail_if_success with_reducible show AW _ _ _ _ _); show AW _ _ _ _ _))
    clear hF
    try (show AW _ _ _ _ _)
    have hF := True.intro
    refine wC (hA := h81) ?_
    clear hF
    have hF := True.intro
    repeat (first | ((with_reducible show AW _ _ _ _ _); first | refine AW.seq ?_ | refine AW.block ?_ | refine AW.reg ?_ | refine AW.draw ?_ | refine wct ?_ | refine wcf ?_ | (refine AW.skip ?_; show AW _ _ _ _ _)) | refine wD1 ?_ | refine wD2 ?_ | refine wE1 ?_ | refine wE2 ?_ | (refine wE3 ?_; intro _) | (refine wE4 ?_; intro _) | refine wN ?_ | ((with_reducible show evIs _ (_ :: _) _ _); first | refine wQ ?_ | refine wF ?_ | refine wG ?_ | refine wT ?_ | refine wM ?_ | refine wS ?_ | refine wP ?_ | refine wJ ?_ | refine wX ?_ | refine wY ?_ | refine wZ ?_ | refine wU ?_ | refine wCp ?_ | refine wCp0 ?_ | refine wApz ?_ | (refine wCap ?_; intro qc hqc)) | refine evDone ?_ | ((fail_if_success with_reducible show AW _ _ _ _ _); show AW _ _ _ _ _))
    clear hF
    try (show AW _ _ _ _ _)
    have hF := True.intro
    refine wL (hA := h20) ?_
    clear hF
    rintro H1 n' v ⟨rfl, rfl, rfl⟩
    have hF := True.intro
    repeat (first | ((with_reducible show AW _ _ _ _ _); first | refine AW.seq ?_ | refine AW.block ?_ | refine AW.reg ?_ | refine AW.draw ?_ | refine wct ?_ | refine wcf ?_ | (refine AW.skip ?_; show AW _ _ _ _ _)) | refine wD1 ?_ | refine wD2 ?_ | refine wE1 ?_ | refine wE2 ?_ | (refine wE3 ?_; intro _) | (refine wE4 ?_; intro _) | refine wN ?_ | ((with_reducible show evIs _ (_ :: _) _ _); first | refine wQ ?_ | refine wF ?_ | refine wG ?_ | refine wT ?_ | refine wM ?_ | refine wS ?_ | refine wP ?_ | refine wJ ?_ | refine wX ?_ | refine wY ?_ | refine wZ ?_ | refine wU ?_ | refine wCp ?_ | refine wCp0 ?_ | refine wApz ?_ | (refine wCap ?_; intro qc hqc)) | refine evDone ?_ | ((fail_if_success with_reducible show AW _ _ _ _ _); show AW _ _ _ _ _))
    clear hF
    try (show AW _ _ _ _ _)
    have hF := True.intro
    refine wL (hA := h82) ?_
    clear hF
    rintro H1 n' v ⟨r1, tl1, rfl, hr1, hr1', rfl, rfl⟩
    have hM : (r1 = 500) = False ∧ (500 = r1) = False ∧ (r1 = 21) = False ∧ (21 = r1) = False ∧ (r1 = 0) = False ∧ (0 = r1) = False ∧ (r1 = 1) = False ∧ (1 = r1) = False ∧ (r1 = 2) = False ∧ (2 = r1) = False ∧ r1 < 700 ∧ r1 < 800 := by
      refine ⟨?_, ?_, ?_, ?_, ?_, ?_, ?_, ?_, ?_, ?_, ?_, ?_⟩ <;> first | exact eq_false (by omega) | omega
    have hF := hM
    repeat (first | ((with_reducible show AW _ _ _ _ _); first | refine AW.seq ?_ | refine AW.block ?_ | refine AW.reg ?_ | refine AW.draw ?_ | refine wct ?_ | refine wcf ?_ | (refine AW.skip ?_; show AW _ _ _ _ _)) | refine wD1 ?_ | refine wD2 ?_ | refine wE1 ?_ | refine wE2 ?_ | (refine wE3 ?_; intro _) | (refine wE4 ?_; intro _) | refine wN ?_ | ((with_reducible show evIs _ (_ :: _) _ _); first | refine wQ ?_ | refine wF ?_ | refine wG ?_ | refine wT ?_ | refine wM ?_ | refine wS ?_ | refine wP ?_ | refine wJ ?_ | refine wX ?_ | refine wY ?_ | refine wZ ?_ | refine wU ?_ | refine wCp ?_ | refine wCp0 ?_ | refine wApz ?_ | (refine wCap ?_; intro qc hqc)) | refine evDone ?_ | ((fail_if_success with_reducible show AW _ _ _ _ _); show AW _ _ _ _ _))
    clear hF
    try (show AW _ _ _ _ _)
    have hF := And.intro (hcx) (And.intro (hcxs) (hM))
    refine wC (hA := h20x) ?_
    clear hF
    have hF := hM
    repeat (first | ((with_reducible show AW _ _ _ _ _); first | refine AW.seq ?_ | refine AW.block ?_ | refine AW.reg ?_ | refine AW.draw ?_ | refine wct ?_ | refine wcf ?_ | (refine AW.skip ?_; show AW _ _ _ _ _)) | refine wD1 ?_ | refine wD2 ?_ | refine wE1 ?_ | refine wE2 ?_ | (refine wE3 ?_; intro _) | (refine wE4 ?_; intro _) | refine wN ?_ | ((with_reducible show evIs _ (_ :: _) _ _); first | refine wQ ?_ | refine wF ?_ | refine wG ?_ | refine wT ?_ | refine wM ?_ | refine wS ?_ | refine wP ?_ | refine wJ ?_ | refine wX ?_ | refine wY ?_ | refine wZ ?_ | refine wU ?_ | refine wCp ?_ | refine wCp0 ?_ | refine wApz ?_ | (refine wCap ?_; intro qc hqc)) | refine evDone ?_ | ((fail_if_success with_reducible show AW _ _ _ _ _); show AW _ _ _ _ _))
    clear hF
    try (show AW _ _ _ _ _)
    have hF := hM
    refine wL (hA := h83) ?_
    clear hF
    rintro H1 n' v ⟨r2, tl2, rfl, hr2, hr2', rfl, rfl⟩
    have hM2 : (r1 = r2) = False ∧ (r2 = r1) = False ∧ (r2 = 21) = False ∧ (21 = r2) = False ∧ (r2 = 0) = False ∧ (0 = r2) = False ∧ (r2 = 1) = False ∧ (1 = r2) = False ∧ (r2 = 2) = False ∧ (2 = r2) = False ∧ r2 < 900 := by
      refine ⟨?_, ?_, ?_, ?_, ?_, ?_, ?_, ?_, ?_, ?_, ?_⟩ <;> first | exact eq_false (by omega) | omega
    have hT1 : (avs (is.take pos) ++ .agg [.int .i64 xk, .int .i64 xn, .str xt, .sl .fro (avs xi), .sl .fro (xs.map .str)] :: (avs (is.drop pos) ++ tl2)).take (is.length + 1) = avs (insL is pos 0 (.mk xk xn xt xi xs)) := by
      rw [show avs (is.take pos) ++ (.agg [.int .i64 xk, .int .i64 xn, .str xt, .sl .fro (avs xi), .sl .fro (xs.map .str)]) :: (avs (is.drop pos) ++ tl2) = (avs (is.take pos) ++ avs [Val.mk xk xn xt xi xs] ++ avs (is.drop pos)) ++ tl2 by rw [hxa]; simp, ← avs_append, ← avs_append, List.take_append_of_le_length (by simp; omega), List.take_of_length_le (by simp; omega)]
      simp [insL]
    have hT2 : ∀ tl : List AV, ((ks.map AV.str).take pos ++ .str p :: ((ks.map AV.str).drop pos ++ tl)).take (ks.length + 1) = (insL ks pos 0 p).map AV.str := by
      intro tl
      rw [show (ks.map AV.str).take pos ++ (AV.str p) :: ((ks.map AV.str).drop pos ++ tl) = ((ks.map AV.str).take pos ++ [AV.str p] ++ (ks.map AV.str).drop pos) ++ tl by simp, List.take_append_of_le_length (by simp; omega), List.take_of_length_le (by simp; omega)]
      simp [insL, List.map_take, List.map_drop]
    have hcomp : (clC ∘ AV.str) = AV.str := rfl
    have hF := And.intro (hM) (hM2)
    repeat (first | ((with_reducible show AW _ _ _ _ _); first | refine AW.seq ?_ | refine AW.block ?_ | refine AW.reg ?_ | refine AW.draw ?_ | refine wct ?_ | refine wcf ?_ | (refine AW.skip ?_; show AW _ _ _ _ _)) | refine wD1 ?_ | refine wD2 ?_ | refine wE1 ?_ | refine wE2 ?_ | (refine wE3 ?_; intro _) | (refine wE4 ?_; intro _) | refine wN ?_ | ((with_reducible show evIs _ (_ :: _) _ _); first | refine wQ ?_ | refine wF ?_ | refine wG ?_ | refine wT ?_ | refine wM ?_ | refine wS ?_ | refine wP ?_ | refine wJ ?_ | refine wX ?_ | refine wY ?_ | refine wZ ?_ | refine wU ?_ | refine wCp ?_ | refine wCp0 ?_ | refine wApz ?_ | (refine wCap ?_; intro qc hqc)) | refine evDone ?_ | ((fail_if_success with_reducible show AW _ _ _ _ _); show AW _ _ _ _ _))
    clear hF
    try (show AW _ _ _ _ _)
    have hb1 : is.length + 1 ≤ min pos is.length + (is.length - pos + tl2.length + 1) := by omega
    have hb2 : ks.length + 1 ≤ min pos ks.length + (ks.length - pos + tl1.length + 1) := by omega
    have hcM := strs_cl (insL ks pos 0 p)
    have hcL := clC_avs (insL is pos 0 (.mk xk xn xt xi xs))
    have hF := And.intro (hT1) (And.intro (hT2) (And.intro (hM) (And.intro (hM2) (And.intro (hb1) (And.intro (hb2) (And.intro (hcM) (And.intro (hcL) (hcomp))))))))
    refine wC (hA := h66) ?_
    clear hF
    cases winV (.mk 5 0 ⟨#[]⟩ (insL is pos 0 (.mk xk xn xt xi xs)) (insL ks pos 0 p)) with
    | true =>
      have hF := And.intro (hM) (hM2)
      repeat (first | ((with_reducible show AW _ _ _ _ _); first | refine AW.seq ?_ | refine AW.block ?_ | refine AW.reg ?_ | refine AW.draw ?_ | refine wct ?_ | refine wcf ?_ | (refine AW.skip ?_; show AW _ _ _ _ _)) | refine wD1 ?_ | refine wD2 ?_ | refine wE1 ?_ | refine wE2 ?_ | (refine wE3 ?_; intro _) | (refine wE4 ?_; intro _) | refine wN ?_ | ((with_reducible show evIs _ (_ :: _) _ _); first | refine wQ ?_ | refine wF ?_ | refine wG ?_ | refine wT ?_ | refine wM ?_ | refine wS ?_ | refine wP ?_ | refine wJ ?_ | refine wX ?_ | refine wY ?_ | refine wZ ?_ | refine wU ?_ | refine wCp ?_ | refine wCp0 ?_ | refine wApz ?_ | (refine wCap ?_; intro qc hqc)) | refine evDone ?_ | ((fail_if_success with_reducible show AW _ _ _ _ _); show AW _ _ _ _ _))
      clear hF
      try (show AW _ _ _ _ _)
      refine AW.ret (retI rfl ?_)
      simp [hT1, hT2, hM, hM2, hb1, hb2, a52_res, resOk, resP, resV, ARes.op, R2s, R2, R1s, R1, closeOk, closeV]
    | false =>
      have hF := And.intro (hM) (hM2)
      repeat (first | ((with_reducible show AW _ _ _ _ _); first | refine AW.seq ?_ | refine AW.block ?_ | refine AW.reg ?_ | refine AW.draw ?_ | refine wct ?_ | refine wcf ?_ | (refine AW.skip ?_; show AW _ _ _ _ _)) | refine wD1 ?_ | refine wD2 ?_ | refine wE1 ?_ | refine wE2 ?_ | (refine wE3 ?_; intro _) | (refine wE4 ?_; intro _) | refine wN ?_ | ((with_reducible show evIs _ (_ :: _) _ _); first | refine wQ ?_ | refine wF ?_ | refine wG ?_ | refine wT ?_ | refine wM ?_ | refine wS ?_ | refine wP ?_ | refine wJ ?_ | refine wX ?_ | refine wY ?_ | refine wZ ?_ | refine wU ?_ | refine wCp ?_ | refine wCp0 ?_ | refine wApz ?_ | (refine wCap ?_; intro qc hqc)) | refine evDone ?_ | ((fail_if_success with_reducible show AW _ _ _ _ _); show AW _ _ _ _ _))
      clear hF
      try (show AW _ _ _ _ _)
      refine AW.ret (retI rfl ?_)
      simp [a52_res, resOk, resP, resV, ARes.op, R2s, R2, R1s, R1, closeOk, closeV]
end Go.Proofs.Ytdnpnokplfemfaa

set_option linter.unusedSimpArgs false
set_option linter.unusedVariables false
set_option maxHeartbeats 8000000
namespace Go.Proofs.Ytdnpnokplfemfaa
open Go Go.Amb Go.IntWalk

theorem f10_of (vk vn xk xn gk gn ck cn dk dn : Int) (vt xt gt ct dt : ByteArray) (vi xi gi ci di : List Val) (vs xs gs cs ds : List ByteArray) (p : ByteArray) (b : Bool) (e1 e2 : Int) (G1 G2 C1 C2 D1 D2 : AV)
    (h1 : ACall Try.prog 11 [.agg [.int .i64 vk, .int .i64 vn, .str vt, .sl .fro (avs vi), .sl .fro (vs.map .str)], .int .i64 1100] (· = .bool true)) (h2 : ACall Try.prog 11 [.agg [.int .i64 xk, .int .i64 xn, .str xt, .sl .fro (avs xi), .sl .fro (xs.map .str)], .int .i64 1100] (· = .bool true))
    (h50 : ACall Try.prog 50 [.agg [.int .i64 vk, .int .i64 vn, .str vt, .sl .fro (avs vi), .sl .fro (vs.map .str)], .str p] (· = .tup [G1, .bool b])) (h51 : ACall Try.prog 51 [.agg [.int .i64 vk, .int .i64 vn, .str vt, .sl .fro (avs vi), .sl .fro (vs.map .str)], .str p] (· = .tup [G2, .bool b]))
    (h52 : ACall Try.prog 52 [.agg [.int .i64 vk, .int .i64 vn, .str vt, .sl .fro (avs vi), .sl .fro (vs.map .str)], .str p, .agg [.int .i64 xk, .int .i64 xn, .str xt, .sl .fro (avs xi), .sl .fro (xs.map .str)]] (· = .tup [C1, .int .i64 e1])) (h53 : ACall Try.prog 53 [.agg [.int .i64 vk, .int .i64 vn, .str vt, .sl .fro (avs vi), .sl .fro (vs.map .str)], .str p, .agg [.int .i64 xk, .int .i64 xn, .str xt, .sl .fro (avs xi), .sl .fro (xs.map .str)]] (· = .tup [C2, .int .i64 e1]))
    (h54 : ACall Try.prog 54 [.agg [.int .i64 vk, .int .i64 vn, .str vt, .sl .fro (avs vi), .sl .fro (vs.map .str)], .str p] (· = .tup [D1, .int .i64 e2])) (h55 : ACall Try.prog 55 [.agg [.int .i64 vk, .int .i64 vn, .str vt, .sl .fro (avs vi), .sl .fro (vs.map .str)], .str p] (· = .tup [D2, .int .i64 e2]))
    (hG1 : clC G1 = .agg [.int .i64 gk, .int .i64 gn, .str gt, .sl .fro (avs gi), .sl .fro (gs.map .str)]) (hG2 : clC G2 = .agg [.int .i64 gk, .int .i64 gn, .str gt, .sl .fro (avs gi), .sl .fro (gs.map .str)]) (hC1 : clC C1 = .agg [.int .i64 ck, .int .i64 cn, .str ct, .sl .fro (avs ci), .sl .fro (cs.map .str)]) (hC2 : clC C2 = .agg [.int .i64 ck, .int .i64 cn, .str ct, .sl .fro (avs ci), .sl .fro (cs.map .str)]) (hD1 : clC D1 = .agg [.int .i64 dk, .int .i64 dn, .str dt, .sl .fro (avs di), .sl .fro (ds.map .str)]) (hD2 : clC D2 = .agg [.int .i64 dk, .int .i64 dn, .str dt, .sl .fro (avs di), .sl .fro (ds.map .str)])
    (s1 : ACall Try.prog 16 [.agg [.int .i64 gk, .int .i64 gn, .str gt, .sl .fro (avs gi), .sl .fro (gs.map .str)], .agg [.int .i64 gk, .int .i64 gn, .str gt, .sl .fro (avs gi), .sl .fro (gs.map .str)]] (· = .bool true)) (s2 : ACall Try.prog 16 [.agg [.int .i64 ck, .int .i64 cn, .str ct, .sl .fro (avs ci), .sl .fro (cs.map .str)], .agg [.int .i64 ck, .int .i64 cn, .str ct, .sl .fro (avs ci), .sl .fro (cs.map .str)]] (· = .bool true)) (s3 : ACall Try.prog 16 [.agg [.int .i64 dk, .int .i64 dn, .str dt, .sl .fro (avs di), .sl .fro (ds.map .str)], .agg [.int .i64 dk, .int .i64 dn, .str dt, .sl .fro (avs di), .sl .fro (ds.map .str)]] (· = .bool true)) :
    ACall Try.prog 10 [.agg [.int .i64 vk, .int .i64 vn, .str vt, .sl .fro (avs vi), .sl .fro (vs.map .str)], .str p, .agg [.int .i64 xk, .int .i64 xn, .str xt, .sl .fro (avs xi), .sl .fro (xs.map .str)]] (· = .bool true) := by
  have hw := works
  refine a10_of (by simp) ?_
  have hF := True.intro
  repeat (first | ((with_reducible show AW _ _ _ _ _); first | refine AW.seq ?_ | refine AW.block ?_ | refine AW.reg ?_ | refine AW.draw ?_ | refine wct ?_ | refine wcf ?_ | (refine AW.skip ?_; show AW _ _ _ _ _)) | refine wD1 ?_ | refine wD2 ?_ | refine wE1 ?_ | refine wE2 ?_ | (refine wE3 ?_; intro _) | (refine wE4 ?_; intro _) | refine wN ?_ | ((with_reducible show evIs _ (_ :: _) _ _); first | refine wQ ?_ | refine wF ?_ | refine wG ?_ | refine wT ?_ | refine wM ?_ | refine wS ?_ | refine wP ?_ | refine wJ ?_ | refine wX ?_ | refine wY ?_ | refine wZ ?_ | refine wU ?_ | refine wCp ?_ | refine wCp0 ?_ | refine wApz ?_ | (refine wCap ?_; intro qc hqc)) | refine evDone ?_ | ((fail_if_success with_reducible show AW _ _ _ _ _); show AW _ _ _ _ _))
  clear hF
  try (show AW _ _ _ _ _)
  have hF := True.intro
  refine wC (hA := h1) ?_
  clear hF
  have hF := True.intro
  repeat (first | ((with_reducible show AW _ _ _ _ _); first | refine AW.seq ?_ | refine AW.block ?_ | refine AW.reg ?_ | refine AW.draw ?_ | refine wct ?_ | refine wcf ?_ | (refine AW.skip ?_; show AW _ _ _ _ _)) | refine wD1 ?_ | refine wD2 ?_ | refine wE1 ?_ | refine wE2 ?_ | (refine wE3 ?_; intro _) | (refine wE4 ?_; intro _) | refine wN ?_ | ((with_reducible show evIs _ (_ :: _) _ _); first | refine wQ ?_ | refine wF ?_ | refine wG ?_ | refine wT ?_ | refine wM ?_ | refine wS ?_ | refine wP ?_ | refine wJ ?_ | refine wX ?_ | refine wY ?_ | refine wZ ?_ | refine wU ?_ | refine wCp ?_ | refine wCp0 ?_ | refine wApz ?_ | (refine wCap ?_; intro qc hqc)) | refine evDone ?_ | ((fail_if_success with_reducible show AW _ _ _ _ _); show AW _ _ _ _ _))
  clear hF
  try (show AW _ _ _ _ _)
  have hF := True.intro
  refine wC (hA := h2) ?_
  clear hF
  have hF := True.intro
  repeat (first | ((with_reducible show AW _ _ _ _ _); first | refine AW.seq ?_ | refine AW.block ?_ | refine AW.reg ?_ | refine AW.draw ?_ | refine wct ?_ | refine wcf ?_ | (refine AW.skip ?_; show AW _ _ _ _ _)) | refine wD1 ?_ | refine wD2 ?_ | refine wE1 ?_ | refine wE2 ?_ | (refine wE3 ?_; intro _) | (refine wE4 ?_; intro _) | refine wN ?_ | ((with_reducible show evIs _ (_ :: _) _ _); first | refine wQ ?_ | refine wF ?_ | refine wG ?_ | refine wT ?_ | refine wM ?_ | refine wS ?_ | refine wP ?_ | refine wJ ?_ | refine wX ?_ | refine wY ?_ | refine wZ ?_ | refine wU ?_ | refine wCp ?_ | refine wCp0 ?_ | refine wApz ?_ | (refine wCap ?_; intro qc hqc)) | refine evDone ?_ | ((fail_if_success with_reducible show AW _ _ _ _ _); show AW _ _ _ _ _))
  clear hF
  try (show AW _ _ _ _ _)
  have hF := hG1
  refine wC (hA := h50) ?_
  clear hF
  have hF := True.intro
  repeat (first | ((with_reducible show AW _ _ _ _ _); first | refine AW.seq ?_ | refine AW.block ?_ | refine AW.reg ?_ | refine AW.draw ?_ | refine wct ?_ | refine wcf ?_ | (refine AW.skip ?_; show AW _ _ _ _ _)) | refine wD1 ?_ | refine wD2 ?_ | refine wE1 ?_ | refine wE2 ?_ | (refine wE3 ?_; intro _) | (refine wE4 ?_; intro _) | refine wN ?_ | ((with_reducible show evIs _ (_ :: _) _ _); first | refine wQ ?_ | refine wF ?_ | refine wG ?_ | refine wT ?_ | refine wM ?_ | refine wS ?_ | refine wP ?_ | refine wJ ?_ | refine wX ?_ | refine wY ?_ | refine wZ ?_ | refine wU ?_ | refine wCp ?_ | refine wCp0 ?_ | refine wApz ?_ | (refine wCap ?_; intro qc hqc)) | refine evDone ?_ | ((fail_if_success with_reducible show AW _ _ _ _ _); show AW _ _ _ _ _))
  clear hF
  try (show AW _ _ _ _ _)
  have hF := hG2
  refine wC (hA := h51) ?_
  clear hF
  have hF := True.intro
  repeat (first | ((with_reducible show AW _ _ _ _ _); first | refine AW.seq ?_ | refine AW.block ?_ | refine AW.reg ?_ | refine AW.draw ?_ | refine wct ?_ | refine wcf ?_ | (refine AW.skip ?_; show AW _ _ _ _ _)) | refine wD1 ?_ | refine wD2 ?_ | refine wE1 ?_ | refine wE2 ?_ | (refine wE3 ?_; intro _) | (refine wE4 ?_; intro _) | refine wN ?_ | ((with_reducible show evIs _ (_ :: _) _ _); first | refine wQ ?_ | refine wF ?_ | refine wG ?_ | refine wT ?_ | refine wM ?_ | refine wS ?_ | refine wP ?_ | refine wJ ?_ | refine wX ?_ | refine wY ?_ | refine wZ ?_ | refine wU ?_ | refine wCp ?_ | refine wCp0 ?_ | refine wApz ?_ | (refine wCap ?_; intro qc hqc)) | refine evDone ?_ | ((fail_if_success with_reducible show AW _ _ _ _ _); show AW _ _ _ _ _))
  clear hF
  try (show AW _ _ _ _ _)
  have hF := hC1
  refine wC (hA := h52) ?_
  clear hF
  have hF := True.intro
  repeat (first | ((with_reducible show AW _ _ _ _ _); first | refine AW.seq ?_ | refine AW.block ?_ | refine AW.reg ?_ | refine AW.draw ?_ | refine wct ?_ | refine wcf ?_ | (refine AW.skip ?_; show AW _ _ _ _ _)) | refine wD1 ?_ | refine wD2 ?_ | refine wE1 ?_ | refine wE2 ?_ | (refine wE3 ?_; intro _) | (refine wE4 ?_; intro _) | refine wN ?_ | ((with_reducible show evIs _ (_ :: _) _ _); first | refine wQ ?_ | refine wF ?_ | refine wG ?_ | refine wT ?_ | refine wM ?_ | refine wS ?_ | refine wP ?_ | refine wJ ?_ | refine wX ?_ | refine wY ?_ | refine wZ ?_ | refine wU ?_ | refine wCp ?_ | refine wCp0 ?_ | refine wApz ?_ | (refine wCap ?_; intro qc hqc)) | refine evDone ?_ | ((fail_if_success with_reducible show AW _ _ _ _ _); show AW _ _ _ _ _))
  clear hF
  try (show AW _ _ _ _ _)
  have hF := hC2
  refine wC (hA := h53) ?_
  clear hF
  have hF := True.intro
  repeat (first | ((with_reducible show AW _ _ _ _ _); first | refine AW.seq ?_ | refine AW.block ?_ | refine AW.reg ?_ | refine AW.draw ?_ | refine wct ?_ | refine wcf ?_ | (refine AW.skip ?_; show AW _ _ _ _ _)) | refine wD1 ?_ | refine wD2 ?_ | refine wE1 ?_ | refine wE2 ?_ | (refine wE3 ?_; intro _) | (refine wE4 ?_; intro _) | refine wN ?_ | ((with_reducible show evIs _ (_ :: _) _ _); first | refine wQ ?_ | refine wF ?_ | refine wG ?_ | refine wT ?_ | refine wM ?_ | refine wS ?_ | refine wP ?_ | refine wJ ?_ | refine wX ?_ | refine wY ?_ | refine wZ ?_ | refine wU ?_ | refine wCp ?_ | refine wCp0 ?_ | refine wApz ?_ | (refine wCap ?_; intro qc hqc)) | refine evDone ?_ | ((fail_if_success with_reducible show AW _ _ _ _ _); show AW _ _ _ _ _))
  clear hF
  try (show AW _ _ _ _ _)
  have hF := hD1
  refine wC (hA := h54) ?_
  clear hF
  have hF := True.intro
  repeat (first | ((with_reducible show AW _ _ _ _ _); first | refine AW.seq ?_ | refine AW.block ?_ | refine AW.reg ?_ | refine AW.draw ?_ | refine wct ?_ | refine wcf ?_ | (refine AW.skip ?_; show AW _ _ _ _ _)) | refine wD1 ?_ | refine wD2 ?_ | refine wE1 ?_ | refine wE2 ?_ | (refine wE3 ?_; intro _) | (refine wE4 ?_; intro _) | refine wN ?_ | ((with_reducible show evIs _ (_ :: _) _ _); first | refine wQ ?_ | refine wF ?_ | refine wG ?_ | refine wT ?_ | refine wM ?_ | refine wS ?_ | refine wP ?_ | refine wJ ?_ | refine wX ?_ | refine wY ?_ | refine wZ ?_ | refine wU ?_ | refine wCp ?_ | refine wCp0 ?_ | refine wApz ?_ | (refine wCap ?_; intro qc hqc)) | refine evDone ?_ | ((fail_if_success with_reducible show AW _ _ _ _ _); show AW _ _ _ _ _))
  clear hF
  try (show AW _ _ _ _ _)
  have hF := hD2
  refine wC (hA := h55) ?_
  clear hF
  have hF := True.intro
  repeat (first | ((with_reducible show AW _ _ _ _ _); first | refine AW.seq ?_ | refine AW.block ?_ | refine AW.reg ?_ | refine AW.draw ?_ | refine wct ?_ | refine wcf ?_ | (refine AW.skip ?_; show AW _ _ _ _ _)) | refine wD1 ?_ | refine wD2 ?_ | refine wE1 ?_ | refine wE2 ?_ | (refine wE3 ?_; intro _) | (refine wE4 ?_; intro _) | refine wN ?_ | ((with_reducible show evIs _ (_ :: _) _ _); first | refine wQ ?_ | refine wF ?_ | refine wG ?_ | refine wT ?_ | refine wM ?_ | refine wS ?_ | refine wP ?_ | refine wJ ?_ | refine wX ?_ | refine wY ?_ | refine wZ ?_ | refine wU ?_ | refine wCp ?_ | refine wCp0 ?_ | refine wApz ?_ | (refine wCap ?_; intro qc hqc)) | refine evDone ?_ | ((fail_if_success with_reducible show AW _ _ _ _ _); show AW _ _ _ _ _))
  clear hF
  try (show AW _ _ _ _ _)
  have hF := True.intro
  refine wC (hA := s1) ?_
  clear hF
  have hF := True.intro
  repeat (first | ((with_reducible show AW _ _ _ _ _); first | refine AW.seq ?_ | refine AW.block ?_ | refine AW.reg ?_ | refine AW.draw ?_ | refine wct ?_ | refine wcf ?_ | (refine AW.skip ?_; show AW _ _ _ _ _)) | refine wD1 ?_ | refine wD2 ?_ | refine wE1 ?_ | refine wE2 ?_ | (refine wE3 ?_; intro _) | (refine wE4 ?_; intro _) | refine wN ?_ | ((with_reducible show evIs _ (_ :: _) _ _); first | refine wQ ?_ | refine wF ?_ | refine wG ?_ | refine wT ?_ | refine wM ?_ | refine wS ?_ | refine wP ?_ | refine wJ ?_ | refine wX ?_ | refine wY ?_ | refine wZ ?_ | refine wU ?_ | refine wCp ?_ | refine wCp0 ?_ | refine wApz ?_ | (refine wCap ?_; intro qc hqc)) | refine evDone ?_ | ((fail_if_success with_reducible show AW _ _ _ _ _); show AW _ _ _ _ _))
  clear hF
  try (show AW _ _ _ _ _)
  have hF := True.intro
  refine wC (hA := s2) ?_
  clear hF
  have hF := True.intro
  repeat (first | ((with_reducible show AW _ _ _ _ _); first | refine AW.seq ?_ | refine AW.block ?_ | refine AW.reg ?_ | refine AW.draw ?_ | refine wct ?_ | refine wcf ?_ | (refine AW.skip ?_; show AW _ _ _ _ _)) | refine wD1 ?_ | refine wD2 ?_ | refine wE1 ?_ | refine wE2 ?_ | (refine wE3 ?_; intro _) | (refine wE4 ?_; intro _) | refine wN ?_ | ((with_reducible show evIs _ (_ :: _) _ _); first | refine wQ ?_ | refine wF ?_ | refine wG ?_ | refine wT ?_ | refine wM ?_ | refine wS ?_ | refine wP ?_ | refine wJ ?_ | refine wX ?_ | refine wY ?_ | refine wZ ?_ | refine wU ?_ | refine wCp ?_ | refine wCp0 ?_ | refine wApz ?_ | (refine wCap ?_; intro qc hqc)) | refine evDone ?_ | ((fail_if_success with_reducible show AW _ _ _ _ _); show AW _ _ _ _ _))
  clear hF
  try (show AW _ _ _ _ _)
  have hF := True.intro
  refine wC (hA := s3) ?_
  clear hF
  have hF := True.intro
  repeat (first | ((with_reducible show AW _ _ _ _ _); first | refine AW.seq ?_ | refine AW.block ?_ | refine AW.reg ?_ | refine AW.draw ?_ | refine wct ?_ | refine wcf ?_ | (refine AW.skip ?_; show AW _ _ _ _ _)) | refine wD1 ?_ | refine wD2 ?_ | refine wE1 ?_ | refine wE2 ?_ | (refine wE3 ?_; intro _) | (refine wE4 ?_; intro _) | refine wN ?_ | ((with_reducible show evIs _ (_ :: _) _ _); first | refine wQ ?_ | refine wF ?_ | refine wG ?_ | refine wT ?_ | refine wM ?_ | refine wS ?_ | refine wP ?_ | refine wJ ?_ | refine wX ?_ | refine wY ?_ | refine wZ ?_ | refine wU ?_ | refine wCp ?_ | refine wCp0 ?_ | refine wApz ?_ | (refine wCap ?_; intro qc hqc)) | refine evDone ?_ | ((fail_if_success with_reducible show AW _ _ _ _ _); show AW _ _ _ _ _))
  clear hF
  try (show AW _ _ _ _ _)
  have hF := True.intro
  refine wC (hA := hw) ?_
  clear hF
  have hF := True.intro
  repeat (first | ((with_reducible show AW _ _ _ _ _); first | refine AW.seq ?_ | refine AW.block ?_ | refine AW.reg ?_ | refine AW.draw ?_ | refine wct ?_ | refine wcf ?_ | (refine AW.skip ?_; show AW _ _ _ _ _)) | refine wD1 ?_ | refine wD2 ?_ | refine wE1 ?_ | refine wE2 ?_ | (refine wE3 ?_; intro _) | (refine wE4 ?_; intro _) | refine wN ?_ | ((with_reducible show evIs _ (_ :: _) _ _); first | refine wQ ?_ | refine wF ?_ | refine wG ?_ | refine wT ?_ | refine wM ?_ | refine wS ?_ | refine wP ?_ | refine wJ ?_ | refine wX ?_ | refine wY ?_ | refine wZ ?_ | refine wU ?_ | refine wCp ?_ | refine wCp0 ?_ | refine wApz ?_ | (refine wCap ?_; intro qc hqc)) | refine evDone ?_ | ((fail_if_success with_reducible show AW _ _ _ _ _); show AW _ _ _ _ _))
  clear hF
  try (show AW _ _ _ _ _)
  refine AW.ret (retI rfl ?_)
  simp [a10_res, resOk, resP, resV, ARes.op, R2s, R2, R1s, R1, closeOk, closeV]
theorem clC_tupZ : clC (.agg [.int .i64 0, .int .i64 0, .str ⟨#[]⟩, .sl .fro [], .sl .fro []]) = .agg [.int .i64 0, .int .i64 0, .str ⟨#[]⟩, .sl .fro [], .sl .fro []] := by simp [clC, mapA, mapAs]
theorem f10 (v x : Val) (hok : v.okv) (hox : x.okv) (p : ByteArray) : ACall Try.prog 10 [v.av, .str p, x.av] (· = .bool true) := by
  have hw := works
  have h1 := f11 v hok 1100 (by omega) (by omega)
  have h2 := f11 x hox 1100 (by omega) (by omega)
  by_cases hv : v.sz ≤ 1100
  case neg =>
    have e : decide ((v.sz : Int) ≤ 1100) = false := by simp; omega
    rw [e] at h1
    obtain ⟨vk, vn, vt, vi, vs⟩ := v
    obtain ⟨xk, xn, xt, xi, xs⟩ := x
    simp only [Val.av] at h1 ⊢
    refine a10_of (by simp) ?_
    have hF := True.intro
    repeat (first | ((with_reducible show AW _ _ _ _ _); first | refine AW.seq ?_ | refine AW.block ?_ | refine AW.reg ?_ | refine AW.draw ?_ | refine wct ?_ | refine wcf ?_ | (refine AW.skip ?_; show AW _ _ _ _ _)) | refine wD1 ?_ | refine wD2 ?_ | refine wE1 ?_ | refine wE2 ?_ | (refine wE3 ?_; intro _) | (refine wE4 ?_; intro _) | refine wN ?_ | ((with_reducible show evIs _ (_ :: _) _ _); first | refine wQ ?_ | refine wF ?_ | refine wG ?_ | refine wT ?_ | refine wM ?_ | refine wS ?_ | refine wP ?_ | refine wJ ?_ | refine wX ?_ | refine wY ?_ | refine wZ ?_ | refine wU ?_ | refine wCp ?_ | refine wCp0 ?_ | refine wApz ?_ | (refine wCap ?_; intro qc hqc)) | refine evDone ?_ | ((fail_if_success with_reducible show AW _ _ _ _ _); show AW _ _ _ _ _))
    clear hF
    try (show AW _ _ _ _ _)
    have hF := True.intro
    refine wC (hA := h1) ?_
    clear hF
    have hF := True.intro
    repeat (first | ((with_reducible show AW _ _ _ _ _); first | refine AW.seq ?_ | refine AW.block ?_ | refine AW.reg ?_ | refine AW.draw ?_ | refine wct ?_ | refine wcf ?_ | (refine AW.skip ?_; show AW _ _ _ _ _)) | refine wD1 ?_ | refine wD2 ?_ | refine wE1 ?_ | refine wE2 ?_ | (refine wE3 ?_; intro _) | (refine wE4 ?_; intro _) | refine wN ?_ | ((with_reducible show evIs _ (_ :: _) _ _); first | refine wQ ?_ | refine wF ?_ | refine wG ?_ | refine wT ?_ | refine wM ?_ | refine wS ?_ | refine wP ?_ | refine wJ ?_ | refine wX ?_ | refine wY ?_ | refine wZ ?_ | refine wU ?_ | refine wCp ?_ | refine wCp0 ?_ | refine wApz ?_ | (refine wCap ?_; intro qc hqc)) | refine evDone ?_ | ((fail_if_success with_reducible show AW _ _ _ _ _); show AW _ _ _ _ _))
    clear hF
    try (show AW _ _ _ _ _)
    have hF := True.intro
    refine wC (hA := hw) ?_
    clear hF
    have hF := True.intro
    repeat (first | ((with_reducible show AW _ _ _ _ _); first | refine AW.seq ?_ | refine AW.block ?_ | refine AW.reg ?_ | refine AW.draw ?_ | refine wct ?_ | refine wcf ?_ | (refine AW.skip ?_; show AW _ _ _ _ _)) | refine wD1 ?_ | refine wD2 ?_ | refine wE1 ?_ | refine wE2 ?_ | (refine wE3 ?_; intro _) | (refine wE4 ?_; intro _) | refine wN ?_ | ((with_reducible show evIs _ (_ :: _) _ _); first | refine wQ ?_ | refine wF ?_ | refine wG ?_ | refine wT ?_ | refine wM ?_ | refine wS ?_ | refine wP ?_ | refine wJ ?_ | refine wX ?_ | refine wY ?_ | refine wZ ?_ | refine wU ?_ | refine wCp ?_ | refine wCp0 ?_ | refine wApz ?_ | (refine wCap ?_; intro qc hqc)) | refine evDone ?_ | ((fail_if_success with_reducible show AW _ _ _ _ _); show AW _ _ _ _ _))
    clear hF
    try (show AW _ _ _ _ _)
    refine AW.ret (retI rfl ?_)
    simp [a10_res, resOk, resP, resV, ARes.op, R2s, R2, R1s, R1, closeOk, closeV]
  by_cases hx : x.sz ≤ 1100
  case neg =>
    have e : decide ((v.sz : Int) ≤ 1100) = true := by simp; omega
    rw [e] at h1
    have e2 : decide ((x.sz : Int) ≤ 1100) = false := by simp; omega
    rw [e2] at h2
    obtain ⟨vk, vn, vt, vi, vs⟩ := v
    obtain ⟨xk, xn, xt, xi, xs⟩ := x
    simp only [Val.av] at h1 h2 ⊢
    refine a10_of (by simp) ?_
    have hF := True.intro
    repeat (first | ((with_reducible show AW _ _ _ _ _); first | refine AW.seq ?_ | refine AW.block ?_ | refine AW.reg ?_ | refine AW.draw ?_ | refine wct ?_ | refine wcf ?_ | (refine AW.skip ?_; show AW _ _ _ _ _)) | refine wD1 ?_ | refine wD2 ?_ | refine wE1 ?_ | refine wE2 ?_ | (refine wE3 ?_; intro _) | (refine wE4 ?_; intro _) | refine wN ?_ | ((with_reducible show evIs _ (_ :: _) _ _); first | refine wQ ?_ | refine wF ?_ | refine wG ?_ | refine wT ?_ | refine wM ?_ | refine wS ?_ | refine wP ?_ | refine wJ ?_ | refine wX ?_ | refine wY ?_ | refine wZ ?_ | refine wU ?_ | refine wCp ?_ | refine wCp0 ?_ | refine wApz ?_ | (refine wCap ?_; intro qc hqc)) | refine evDone ?_ | ((fail_if_success with_reducible show AW _ _ _ _ _); show AW _ _ _ _ _))
    clear hF
    try (show AW _ _ _ _ _)
    have hF := True.intro
    refine wC (hA := h1) ?_
    clear hF
    have hF := True.intro
    repeat (first | ((with_reducible show AW _ _ _ _ _); first | refine AW.seq ?_ | refine AW.block ?_ | refine AW.reg ?_ | refine AW.draw ?_ | refine wct ?_ | refine wcf ?_ | (refine AW.skip ?_; show AW _ _ _ _ _)) | refine wD1 ?_ | refine wD2 ?_ | refine wE1 ?_ | refine wE2 ?_ | (refine wE3 ?_; intro _) | (refine wE4 ?_; intro _) | refine wN ?_ | ((with_reducible show evIs _ (_ :: _) _ _); first | refine wQ ?_ | refine wF ?_ | refine wG ?_ | refine wT ?_ | refine wM ?_ | refine wS ?_ | refine wP ?_ | refine wJ ?_ | refine wX ?_ | refine wY ?_ | refine wZ ?_ | refine wU ?_ | refine wCp ?_ | refine wCp0 ?_ | refine wApz ?_ | (refine wCap ?_; intro qc hqc)) | refine evDone ?_ | ((fail_if_success with_reducible show AW _ _ _ _ _); show AW _ _ _ _ _))
    clear hF
    try (show AW _ _ _ _ _)
    have hF := True.intro
    refine wC (hA := h2) ?_
    clear hF
    have hF := True.intro
    repeat (first | ((with_reducible show AW _ _ _ _ _); first | refine AW.seq ?_ | refine AW.block ?_ | refine AW.reg ?_ | refine AW.draw ?_ | refine wct ?_ | refine wcf ?_ | (refine AW.skip ?_; show AW _ _ _ _ _)) | refine wD1 ?_ | refine wD2 ?_ | refine wE1 ?_ | refine wE2 ?_ | (refine wE3 ?_; intro _) | (refine wE4 ?_; intro _) | refine wN ?_ | ((with_reducible show evIs _ (_ :: _) _ _); first | refine wQ ?_ | refine wF ?_ | refine wG ?_ | refine wT ?_ | refine wM ?_ | refine wS ?_ | refine wP ?_ | refine wJ ?_ | refine wX ?_ | refine wY ?_ | refine wZ ?_ | refine wU ?_ | refine wCp ?_ | refine wCp0 ?_ | refine wApz ?_ | (refine wCap ?_; intro qc hqc)) | refine evDone ?_ | ((fail_if_success with_reducible show AW _ _ _ _ _); show AW _ _ _ _ _))
    clear hF
    try (show AW _ _ _ _ _)
    have hF := True.intro
    refine wC (hA := hw) ?_
    clear hF
    have hF := True.intro
    repeat (first | ((with_reducible show AW _ _ _ _ _); first | refine AW.seq ?_ | refine AW.block ?_ | refine AW.reg ?_ | refine AW.draw ?_ | refine wct ?_ | refine wcf ?_ | (refine AW.skip ?_; show AW _ _ _ _ _)) | refine wD1 ?_ | refine wD2 ?_ | refine wE1 ?_ | refine wE2 ?_ | (refine wE3 ?_; intro _) | (refine wE4 ?_; intro _) | refine wN ?_ | ((with_reducible show evIs _ (_ :: _) _ _); first | refine wQ ?_ | refine wF ?_ | refine wG ?_ | refine wT ?_ | refine wM ?_ | refine wS ?_ | refine wP ?_ | refine wJ ?_ | refine wX ?_ | refine wY ?_ | refine wZ ?_ | refine wU ?_ | refine wCp ?_ | refine wCp0 ?_ | refine wApz ?_ | (refine wCap ?_; intro qc hqc)) | refine evDone ?_ | ((fail_if_success with_reducible show AW _ _ _ _ _); show AW _ _ _ _ _))
    clear hF
    try (show AW _ _ _ _ _)
    refine AW.ret (retI rfl ?_)
    simp [a10_res, resOk, resP, resV, ARes.op, R2s, R2, R1s, R1, closeOk, closeV]
  have e : decide ((v.sz : Int) ≤ 1100) = true := by simp; omega
  rw [e] at h1
  have e2 : decide ((x.sz : Int) ≤ 1100) = true := by simp; omega
  rw [e2] at h2
  have hz : ACall Try.prog 16 [.agg [.int .i64 0, .int .i64 0, .str ⟨#[]⟩, .sl .fro [], .sl .fro []], .agg [.int .i64 0, .int .i64 0, .str ⟨#[]⟩, .sl .fro [], .sl .fro []]] (· = .bool true) := by
    have := f16 (.mk 0 0 ⟨#[]⟩ [] []) (.mk 0 0 ⟨#[]⟩ [] []) (by simp [Val.okv, okvs]) (by simp [Val.okv, okvs])
    rw [sameV_refl] at this
    simpa [Val.av, avs] using this
  have hav : avs [] = [] := rfl
  obtain ⟨vk, vn, vt, is, ks⟩ := v
  by_cases hm : vk = 5 ∧ wfV true (.mk vk vn vt is ks) = true
  · obtain ⟨rfl, hm2⟩ := hm
    obtain ⟨rfl, rfl, -, -⟩ := wf_map hm2
    obtain ⟨xk, xn, xt, xi, xs⟩ := x
    have hsz : szs is ≤ 400000 := by simp only [Val.sz] at hv; omega
    have hil := szs_len is
    have g50 := f50y is ks p hok hm2 (by omega)
    have g51 := f51y is ks p hok hm2 (by omega)
    have g52 := f52y is ks p xk xn xt xi xs hok hox hm2 hsz (by omega)
    have g53 := f53y is ks p xk xn xt xi xs hok hox hm2 hsz (by omega)
    have g54 := f54y is ks p hok hm2 (by omega)
    have g55 := f55y is ks p hok hm2 (by omega)
    obtain ⟨-, -, hlen, hr⟩ := wf_map hm2
    have hok2 := hok
    simp only [Val.okv] at hok2
    have hpo := put_ok (is := is) (ks := ks) (p := p) (x := .mk xk xn xt xi xs) hok2.2.2 hox (by omega) (by omega)
    have hsp := f16 _ _ hpo hpo
    rw [sameV_refl] at hsp
    have hdo : (Val.mk 5 0 ⟨#[]⟩ (delL is (posK ks p)) (delL ks (posK ks p))).okv := by
      refine ⟨?_, ?_, okvs_of ?_⟩
      · simp [delL]; omega
      · simp [delL]; omega
      · intro z hz
        unfold delL at hz
        rcases List.mem_append.1 hz with h | h
        · exact okvs_mem hok2.2.2 (List.mem_of_mem_take h)
        · exact okvs_mem hok2.2.2 (List.mem_of_mem_drop h)
    have hsd := f16 _ _ hdo hdo
    rw [sameV_refl] at hsd
    simp only [Val.av, putV] at h1 h2 hsp hsd ⊢
    have hco : ∀ (L : List Val) (M : List ByteArray), clC (.agg [.int .i64 5, .int .i64 0, .str ⟨#[]⟩, .sl (.own 5) (avs L), .sl (.own 1) (M.map .str)]) = .agg [.int .i64 5, .int .i64 0, .str ⟨#[]⟩, .sl .fro (avs L), .sl .fro (M.map .str)] := by
      intro L M
      have q1 := clC_avs L
      have q2 := strs_cl M
      have q3 : mapAs nilF nilF (avs L) = avs L := by rw [mapAs_eq]; exact q1
      have q4 : mapAs nilF nilF (M.map AV.str) = M.map AV.str := by rw [mapAs_eq]; exact q2
      simp only [clC, mapA, mapAs, q3, q4]
    have hcf : ∀ (L : List Val) (M : List ByteArray), clC (.agg [.int .i64 5, .int .i64 0, .str ⟨#[]⟩, .sl .fro (avs L), .sl .fro (M.map .str)]) = .agg [.int .i64 5, .int .i64 0, .str ⟨#[]⟩, .sl .fro (avs L), .sl .fro (M.map .str)] := by
      intro L M
      simp only [clC, mapA, mapAs]
    -- what Put gives
    obtain ⟨C1, C2, ck, cn, ct, ci, cs, e1, g52', g53', hC1, hC2, s2⟩ : ∃ (C1 C2 : AV) (ck cn : Int) (ct : ByteArray) (ci : List Val) (cs : List ByteArray) (e1 : Int),
        ACall Try.prog 52 [.agg [.int .i64 5, .int .i64 0, .str ⟨#[]⟩, .sl .fro (avs is), .sl .fro (ks.map .str)], .str p, .agg [.int .i64 xk, .int .i64 xn, .str xt, .sl .fro (avs xi), .sl .fro (xs.map .str)]] (· = .tup [C1, .int .i64 e1]) ∧ ACall Try.prog 53 [.agg [.int .i64 5, .int .i64 0, .str ⟨#[]⟩, .sl .fro (avs is), .sl .fro (ks.map .str)], .str p, .agg [.int .i64 xk, .int .i64 xn, .str xt, .sl .fro (avs xi), .sl .fro (xs.map .str)]] (· = .tup [C2, .int .i64 e1]) ∧ clC C1 = .agg [.int .i64 ck, .int .i64 cn, .str ct, .sl .fro (avs ci), .sl .fro (cs.map .str)] ∧ clC C2 = .agg [.int .i64 ck, .int .i64 cn, .str ct, .sl .fro (avs ci), .sl .fro (cs.map .str)] ∧ ACall Try.prog 16 [.agg [.int .i64 ck, .int .i64 cn, .str ct, .sl .fro (avs ci), .sl .fro (cs.map .str)], .agg [.int .i64 ck, .int .i64 cn, .str ct, .sl .fro (avs ci), .sl .fro (cs.map .str)]] (· = .bool true) := by
      unfold putO at g52
      unfold putR at g53
      cases hwn : winV (putV is ks p (.mk xk xn xt xi xs)) with
      | true =>
        rw [hwn] at g52 g53
        exact ⟨_, _, 5, 0, ⟨#[]⟩, _, _, 0, g52, g53, hco _ _, hcf _ _, hsp⟩
      | false =>
        rw [hwn] at g52 g53
        exact ⟨_, _, 0, 0, ⟨#[]⟩, [], [], 6, g52, g53, clC_tupZ, clC_tupZ, hz⟩
    obtain ⟨D1, dk, dn, dt, di, ds, e2, g54', g55', hD1, s3⟩ : ∃ (D1 : AV) (dk dn : Int) (dt : ByteArray) (di : List Val) (ds : List ByteArray) (e2 : Int),
        ACall Try.prog 54 [.agg [.int .i64 5, .int .i64 0, .str ⟨#[]⟩, .sl .fro (avs is), .sl .fro (ks.map .str)], .str p] (· = .tup [D1, .int .i64 e2]) ∧ ACall Try.prog 55 [.agg [.int .i64 5, .int .i64 0, .str ⟨#[]⟩, .sl .fro (avs is), .sl .fro (ks.map .str)], .str p] (· = .tup [D1, .int .i64 e2]) ∧ clC D1 = .agg [.int .i64 dk, .int .i64 dn, .str dt, .sl .fro (avs di), .sl .fro (ds.map .str)] ∧ ACall Try.prog 16 [.agg [.int .i64 dk, .int .i64 dn, .str dt, .sl .fro (avs di), .sl .fro (ds.map .str)], .agg [.int .i64 dk, .int .i64 dn, .str dt, .sl .fro (avs di), .sl .fro (ds.map .str)]] (· = .bool true) := by
      unfold dropR at g54 g55
      by_cases hf : ks[posK ks p]? = some p
      · rw [if_pos hf] at g54 g55
        exact ⟨_, 5, 0, ⟨#[]⟩, _, _, 0, g54, g55, hco _ _, hsd⟩
      · rw [if_neg hf] at g54 g55
        exact ⟨_, 0, 0, ⟨#[]⟩, [], [], 15, g54, g55, clC_tupZ, hz⟩
    obtain ⟨G1, gk, gn, gt, gi, gs, b, g50', g51', hG1, s1⟩ : ∃ (G1 : AV) (gk gn : Int) (gt : ByteArray) (gi : List Val) (gs : List ByteArray) (b : Bool),
        ACall Try.prog 50 [.agg [.int .i64 5, .int .i64 0, .str ⟨#[]⟩, .sl .fro (avs is), .sl .fro (ks.map .str)], .str p] (· = .tup [G1, .bool b]) ∧ ACall Try.prog 51 [.agg [.int .i64 5, .int .i64 0, .str ⟨#[]⟩, .sl .fro (avs is), .sl .fro (ks.map .str)], .str p] (· = .tup [G1, .bool b]) ∧ clC G1 = .agg [.int .i64 gk, .int .i64 gn, .str gt, .sl .fro (avs gi), .sl .fro (gs.map .str)] ∧ ACall Try.prog 16 [.agg [.int .i64 gk, .int .i64 gn, .str gt, .sl .fro (avs gi), .sl .fro (gs.map .str)], .agg [.int .i64 gk, .int .i64 gn, .str gt, .sl .fro (avs gi), .sl .fro (gs.map .str)]] (· = .bool true) := by
      by_cases hf : ks[posK ks p]? = some p
      · obtain ⟨y, hy, he⟩ := getR_yes (is := is) hlen hf
        rw [he] at g50 g51
        have hoy : y.okv := okvs_mem hok2.2.2 (List.mem_of_getElem? hy)
        have hsy := f16 _ _ hoy hoy
        rw [sameV_refl] at hsy
        have hcy := clC_av y
        obtain ⟨gk, gn, gt, gi, gs⟩ := y
        simp only [Val.av] at g50 g51 hsy hcy
        exact ⟨_, gk, gn, gt, gi, gs, true, g50, g51, hcy, hsy⟩
      · rw [getR_no hf] at g50 g51
        exact ⟨_, 0, 0, ⟨#[]⟩, [], [], false, g50, g51, clC_tupZ, hz⟩
    exact f10_of 5 0 xk xn gk gn ck cn dk dn ⟨#[]⟩ xt gt ct dt is xi gi ci di ks xs gs cs ds p b e1 e2 G1 G1 C1 C2 D1 D1 h1 h2 g50' g51' g52' g53' g54' g55' hG1 hG1 hC1 hC2 hD1 hD1 s1 s2 s3
  · obtain ⟨xk, xn, xt, xi, xs⟩ := x
    simp only [Val.av] at h1 h2 ⊢
    exact f10_of vk vn xk xn 0 0 0 0 0 0 vt xt ⟨#[]⟩ ⟨#[]⟩ ⟨#[]⟩ is xi [] [] [] ks xs [] [] [] p false 12 12 _ _ _ _ _ _ h1 h2 (f50n vk vn vt is ks p hok hm) (f51n vk vn vt is ks p hok hm) (f52n vk vn vt is ks p xk xn xt xi xs hok hm) (f53n vk vn vt is ks p xk xn xt xi xs hok hm) (f54n vk vn vt is ks p hok hm) (f55n vk vn vt is ks p hok hm) clC_tupZ clC_tupZ clC_tupZ clC_tupZ clC_tupZ clC_tupZ hz hz hz
end Go.Proofs.Ytdnpnokplfemfaa
