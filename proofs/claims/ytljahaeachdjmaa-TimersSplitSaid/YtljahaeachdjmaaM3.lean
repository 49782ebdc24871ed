/- Chapter 37, thirty-fifth part: the law of Split. -/
import Derived.Test.YtljahaeachdjmaaT9
import Derived.Test.YtljahaeachdjmaaS2

set_option linter.unusedSimpArgs false
set_option linter.unusedVariables false
set_option maxHeartbeats 8000000
namespace Go.Proofs.Ytljahaeachdjmaa
open Go Go.Amb Go.IntWalk

theorem f6 (l : List Item) (now later : Int) : ACall Try.prog 6 [items l, .int .i64 now, .int .i64 later] (· = .bool true) := by
  have hw := works
  simp only [items]
  refine a6_of (by simp) ?_
  repeat refine AW.seq ?_
  refine AW.reg ?_
  have hF := True.intro
  repeat (first | refine wD1 ?_ | refine wD2 ?_ | refine wE1 ?_ | refine wE2 ?_ | (refine wE3 ?_; intro _) | (refine wE4 ?_; intro _) | refine wN ?_ | ((with_reducible show evIs _ (_ :: _) _ _); first | refine wQ ?_ | refine wF ?_ | refine wG ?_ | refine wT ?_ | refine wM ?_ | refine wS ?_ | refine wP ?_ | refine wJ ?_ | refine wX ?_ | refine wY ?_ | refine wZ ?_))
  clear hF
  repeat refine evDone ?_
  try (show AW _ _ _ _ _)
  repeat refine AW.seq ?_
  refine AW.reg ?_
  by_cases h60 : (60 : Int) < l.length
  · have hF := h60
    repeat (first | refine wD1 ?_ | refine wD2 ?_ | refine wE1 ?_ | refine wE2 ?_ | (refine wE3 ?_; intro _) | (refine wE4 ?_; intro _) | refine wN ?_ | ((with_reducible show evIs _ (_ :: _) _ _); first | refine wQ ?_ | refine wF ?_ | refine wG ?_ | refine wT ?_ | refine wM ?_ | refine wS ?_ | refine wP ?_ | refine wJ ?_ | refine wX ?_ | refine wY ?_ | refine wZ ?_))
    clear hF
    repeat refine evDone ?_
    try (show AW _ _ _ _ _)
    repeat refine AW.seq ?_
    refine AW.condT (by simp []) (by simp []) ?_
    repeat refine AW.seq ?_
    refine AW.reg ?_
    have hF := True.intro
    repeat (first | refine wD1 ?_ | refine wD2 ?_ | refine wE1 ?_ | refine wE2 ?_ | (refine wE3 ?_; intro _) | (refine wE4 ?_; intro _) | refine wN ?_ | ((with_reducible show evIs _ (_ :: _) _ _); first | refine wQ ?_ | refine wF ?_ | refine wG ?_ | refine wT ?_ | refine wM ?_ | refine wS ?_ | refine wP ?_ | refine wJ ?_ | refine wX ?_ | refine wY ?_ | refine wZ ?_))
    clear hF
    repeat refine evDone ?_
    try (show AW _ _ _ _ _)
    have hF := True.intro
    refine wC (hA := hw) ?_
    clear hF
    have hF := True.intro
    repeat (first | refine wD1 ?_ | refine wD2 ?_ | refine wE1 ?_ | refine wE2 ?_ | (refine wE3 ?_; intro _) | (refine wE4 ?_; intro _) | refine wN ?_ | ((with_reducible show evIs _ (_ :: _) _ _); first | refine wQ ?_ | refine wF ?_ | refine wG ?_ | refine wT ?_ | refine wM ?_ | refine wS ?_ | refine wP ?_ | refine wJ ?_ | refine wX ?_ | refine wY ?_ | refine wZ ?_))
    clear hF
    repeat refine evDone ?_
    try (show AW _ _ _ _ _)
    refine AW.ret (retI rfl ?_)
    simp [a6_res, resOk, resP, resV, ARes.op, R2s, R2, R1s, R1, closeOk, closeV]
  by_cases hnl : later < now
  · have hF := And.intro (h60) (hnl)
    repeat (first | refine wD1 ?_ | refine wD2 ?_ | refine wE1 ?_ | refine wE2 ?_ | (refine wE3 ?_; intro _) | (refine wE4 ?_; intro _) | refine wN ?_ | ((with_reducible show evIs _ (_ :: _) _ _); first | refine wQ ?_ | refine wF ?_ | refine wG ?_ | refine wT ?_ | refine wM ?_ | refine wS ?_ | refine wP ?_ | refine wJ ?_ | refine wX ?_ | refine wY ?_ | refine wZ ?_))
    clear hF
    repeat refine evDone ?_
    try (show AW _ _ _ _ _)
    repeat refine AW.seq ?_
    refine AW.condT (by simp []) (by simp []) ?_
    repeat refine AW.seq ?_
    refine AW.reg ?_
    have hF := True.intro
    repeat (first | refine wD1 ?_ | refine wD2 ?_ | refine wE1 ?_ | refine wE2 ?_ | (refine wE3 ?_; intro _) | (refine wE4 ?_; intro _) | refine wN ?_ | ((with_reducible show evIs _ (_ :: _) _ _); first | refine wQ ?_ | refine wF ?_ | refine wG ?_ | refine wT ?_ | refine wM ?_ | refine wS ?_ | refine wP ?_ | refine wJ ?_ | refine wX ?_ | refine wY ?_ | refine wZ ?_))
    clear hF
    repeat refine evDone ?_
    try (show AW _ _ _ _ _)
    have hF := True.intro
    refine wC (hA := hw) ?_
    clear hF
    have hF := True.intro
    repeat (first | refine wD1 ?_ | refine wD2 ?_ | refine wE1 ?_ | refine wE2 ?_ | (refine wE3 ?_; intro _) | (refine wE4 ?_; intro _) | refine wN ?_ | ((with_reducible show evIs _ (_ :: _) _ _); first | refine wQ ?_ | refine wF ?_ | refine wG ?_ | refine wT ?_ | refine wM ?_ | refine wS ?_ | refine wP ?_ | refine wJ ?_ | refine wX ?_ | refine wY ?_ | refine wZ ?_))
    clear hF
    repeat refine evDone ?_
    try (show AW _ _ _ _ _)
    refine AW.ret (retI rfl ?_)
    simp [a6_res, resOk, resP, resV, ARes.op, R2s, R2, R1s, R1, closeOk, closeV]
  have hlen : l.length ≤ 60 := by omega
  have hF := And.intro (h60) (hnl)
  repeat (first | refine wD1 ?_ | refine wD2 ?_ | refine wE1 ?_ | refine wE2 ?_ | (refine wE3 ?_; intro _) | (refine wE4 ?_; intro _) | refine wN ?_ | ((with_reducible show evIs _ (_ :: _) _ _); first | refine wQ ?_ | refine wF ?_ | refine wG ?_ | refine wT ?_ | refine wM ?_ | refine wS ?_ | refine wP ?_ | refine wJ ?_ | refine wX ?_ | refine wY ?_ | refine wZ ?_))
  clear hF
  repeat refine evDone ?_
  try (show AW _ _ _ _ _)
  repeat refine AW.seq ?_
  refine AW.condF (by simp []) (by simp []) ?_
  refine AW.skip ?_
  show AW _ _ _ _ _
  have hma : (∀ (fh fq : Nat → Nat → Nat → AV) (cs : List AV), mapA fh fq (.agg cs) = .agg (cs.map (mapA fh fq))) ∧ (∀ (fh fq : Nat → Nat → Nat → AV) (r o n : Nat), mapA fh fq (.hdr r o n) = fh r o n) ∧ (∀ (fh fq : Nat → Nat → Nat → AV) (b : Bool), mapA fh fq (.bool b) = .bool b) ∧ (∀ (fh fq : Nat → Nat → Nat → AV) (n : Int), mapA fh fq (.int .i64 n) = .int .i64 n) := by
    refine ⟨?_, ?_, ?_, ?_⟩ <;> intros <;> simp [mapA, mapAs_eq]
  have h10 : BCall Try.prog 10 [] 100 [] (fun H1 n' v => H1 = [(102, ⟨2, true, [.agg [.hdr 600 0 0, .bool true]]⟩), (600, ⟨2, false, []⟩)] ∧ n' = 1100 ∧ v = .ptr 102 0 0) := f10 100
  have h10b : BCall Try.prog 10 [] 2000 [] (fun H1 n' v => H1 = [(2002, ⟨2, true, [.agg [.hdr 2500 0 0, .bool true]]⟩), (2500, ⟨2, false, []⟩)] ∧ n' = 3000 ∧ v = .ptr 2002 0 0) := f10 2000
  repeat refine AW.seq ?_
  refine AW.reg ?_
  have hF := True.intro
  repeat (first | refine wD1 ?_ | refine wD2 ?_ | refine wE1 ?_ | refine wE2 ?_ | (refine wE3 ?_; intro _) | (refine wE4 ?_; intro _) | refine wN ?_ | ((with_reducible show evIs _ (_ :: _) _ _); first | refine wQ ?_ | refine wF ?_ | refine wG ?_ | refine wT ?_ | refine wM ?_ | refine wS ?_ | refine wP ?_ | refine wJ ?_ | refine wX ?_ | refine wY ?_ | refine wZ ?_))
  clear hF
  repeat refine evDone ?_
  try (show AW _ _ _ _ _)
  have hF := True.intro
  refine wL (hA := h10) ?_
  clear hF
  rintro _ _ _ ⟨rfl, rfl, rfl⟩
  have hF := True.intro
  repeat (first | refine wD1 ?_ | refine wD2 ?_ | refine wE1 ?_ | refine wE2 ?_ | (refine wE3 ?_; intro _) | (refine wE4 ?_; intro _) | refine wN ?_ | ((with_reducible show evIs _ (_ :: _) _ _); first | refine wQ ?_ | refine wF ?_ | refine wG ?_ | refine wT ?_ | refine wM ?_ | refine wS ?_ | refine wP ?_ | refine wJ ?_ | refine wX ?_ | refine wY ?_ | refine wZ ?_))
  clear hF
  repeat refine evDone ?_
  try (show AW _ _ _ _ _)
  have hF := True.intro
  refine wL (hA := h10b) ?_
  clear hF
  rintro _ _ _ ⟨rfl, rfl, rfl⟩
  have hF := True.intro
  repeat (first | refine wD1 ?_ | refine wD2 ?_ | refine wE1 ?_ | refine wE2 ?_ | (refine wE3 ?_; intro _) | (refine wE4 ?_; intro _) | refine wN ?_ | ((with_reducible show evIs _ (_ :: _) _ _); first | refine wQ ?_ | refine wF ?_ | refine wG ?_ | refine wT ?_ | refine wM ?_ | refine wS ?_ | refine wP ?_ | refine wJ ?_ | refine wX ?_ | refine wY ?_ | refine wZ ?_))
  clear hF
  repeat refine evDone ?_
  try (show AW _ _ _ _ _)
  repeat refine AW.seq ?_
  refine AW.reg ?_
  have hF := True.intro
  repeat (first | refine wD1 ?_ | refine wD2 ?_ | refine wE1 ?_ | refine wE2 ?_ | (refine wE3 ?_; intro _) | (refine wE4 ?_; intro _) | refine wN ?_ | ((with_reducible show evIs _ (_ :: _) _ _); first | refine wQ ?_ | refine wF ?_ | refine wG ?_ | refine wT ?_ | refine wM ?_ | refine wS ?_ | refine wP ?_ | refine wJ ?_ | refine wX ?_ | refine wY ?_ | refine wZ ?_))
  clear hF
  repeat refine evDone ?_
  try (show AW _ _ _ _ _)
  repeat refine AW.seq ?_
  refine AW.condF (by simp []) (by simp []) ?_
  refine AW.skip ?_
  show AW _ _ _ _ _
  have h11 := f11 4000 102 600 (by omega) (by omega) (by omega) [] l (by simp; omega)
  have hfl := fillF_len l l.length []
  rw [List.take_length] at hfl
  have hhp := fillF_heap l [] hm_nil
  obtain ⟨xs, hfe⟩ : ∃ xs, fillF [] l = xs := ⟨_, rfl⟩
  rw [hfe] at hfl hhp h11
  simp only [List.length_nil, Nat.zero_add] at hfl
  simp only [Qs, box, items, List.map_nil, List.length_nil] at h11
  repeat refine AW.seq ?_
  refine AW.reg ?_
  have hF := True.intro
  repeat (first | refine wD1 ?_ | refine wD2 ?_ | refine wE1 ?_ | refine wE2 ?_ | (refine wE3 ?_; intro _) | (refine wE4 ?_; intro _) | refine wN ?_ | ((with_reducible show evIs _ (_ :: _) _ _); first | refine wQ ?_ | refine wF ?_ | refine wG ?_ | refine wT ?_ | refine wM ?_ | refine wS ?_ | refine wP ?_ | refine wJ ?_ | refine wX ?_ | refine wY ?_ | refine wZ ?_))
  clear hF
  repeat refine evDone ?_
  try (show AW _ _ _ _ _)
  have hF := True.intro
  refine wL (hA := h11) ?_
  clear hF
  rintro _ na _ ⟨Ha, hHa, hHa1, hHa2, rfl, rfl⟩
  have hA : (102 = Ha) = False ∧ (Ha = 102) = False ∧ (Ha = 2002) = False ∧ (Ha = 2500) = False ∧ (2002 = Ha) = False ∧ (2500 = Ha) = False ∧ 102 < na + 4000 ∧ (∀ qz, 102 < na + 4000 + qz) ∧ (∀ qz, (102 = na + 4000 + qz) = False) ∧ (∀ qz, (na + 4000 + qz = 102) = False) ∧ Ha < na + 4000 ∧ (∀ qz, Ha < na + 4000 + qz) ∧ (∀ qz, (Ha = na + 4000 + qz) = False) ∧ (∀ qz, (na + 4000 + qz = Ha) = False) ∧ 2002 < na + 4000 ∧ (∀ qz, 2002 < na + 4000 + qz) ∧ (∀ qz, (2002 = na + 4000 + qz) = False) ∧ (∀ qz, (na + 4000 + qz = 2002) = False) ∧ 2500 < na + 4000 ∧ (∀ qz, 2500 < na + 4000 + qz) ∧ (∀ qz, (2500 = na + 4000 + qz) = False) ∧ (∀ qz, (na + 4000 + qz = 2500) = False) ∧ (∀ qz, (na + 4000 + qz < na + 4000) = False) := ⟨eq_false (by omega), eq_false (by omega), eq_false (by omega), eq_false (by omega), eq_false (by omega), eq_false (by omega), by omega, fun qz => by omega, fun qz => eq_false (by omega), fun qz => eq_false (by omega), by omega, fun qz => by omega, fun qz => eq_false (by omega), fun qz => eq_false (by omega), by omega, fun qz => by omega, fun qz => eq_false (by omega), fun qz => eq_false (by omega), by omega, fun qz => by omega, fun qz => eq_false (by omega), fun qz => eq_false (by omega), fun qz => eq_false (by omega)⟩
  have hF := hA
  repeat (first | refine wD1 ?_ | refine wD2 ?_ | refine wE1 ?_ | refine wE2 ?_ | (refine wE3 ?_; intro _) | (refine wE4 ?_; intro _) | refine wN ?_ | ((with_reducible show evIs _ (_ :: _) _ _); first | refine wQ ?_ | refine wF ?_ | refine wG ?_ | refine wT ?_ | refine wM ?_ | refine wS ?_ | refine wP ?_ | refine wJ ?_ | refine wX ?_ | refine wY ?_ | refine wZ ?_))
  clear hF
  repeat refine evDone ?_
  try (show AW _ _ _ _ _)
  refine AW.fit (st' := mkS [(0, .sl .fro (l.map Item.av)), (1, .int .i64 now), (2, .int .i64 later), (7, .ptr 102 0 0), (8, .ptr 2002 0 0)] [(102, ⟨2, true, [.agg [.hdr Ha 0 xs.length, .bool true]]⟩), (Ha, ⟨2, false, xs.map Item.av⟩), (2002, ⟨2, true, [.agg [.hdr 2500 0 0, .bool true]]⟩), (2500, ⟨2, false, []⟩)] (na + 4000)) ?_ ?_
  · refine Fit.mk _ _ _ (by simp [hA, conv2, newEmp, convs_refl, convs, conv]) (by simp [hA, heapFit, newEmp, conv2s, conv2, convs_refl, convs, conv]) (by intro q hq; first | (simp at hq; done) | (simp at hq; omega) | (simp at hq; simp; omega))
  rw [mkS_eq]
  have h11b := f11 (na + 4000) 2002 2500 (by omega) (by omega) (by omega) [] l (by simp; omega)
  rw [hfe] at h11b
  simp only [Qs, box, items, List.map_nil, List.length_nil] at h11b
  repeat refine AW.seq ?_
  refine AW.reg ?_
  have hF := hA
  repeat (first | refine wD1 ?_ | refine wD2 ?_ | refine wE1 ?_ | refine wE2 ?_ | (refine wE3 ?_; intro _) | (refine wE4 ?_; intro _) | refine wN ?_ | ((with_reducible show evIs _ (_ :: _) _ _); first | refine wQ ?_ | refine wF ?_ | refine wG ?_ | refine wT ?_ | refine wM ?_ | refine wS ?_ | refine wP ?_ | refine wJ ?_ | refine wX ?_ | refine wY ?_ | refine wZ ?_))
  clear hF
  repeat refine evDone ?_
  try (show AW _ _ _ _ _)
  have hF := hA
  refine wL (hA := h11b) ?_
  clear hF
  rintro _ nb _ ⟨Hb, hHb, hHb1, hHb2, rfl, rfl⟩
  obtain ⟨m, hm⟩ : ∃ m, m = na + nb + 5000 := ⟨_, rfl⟩
  have hB : (102 = Ha) = False ∧ (102 = Hb) = False ∧ (Ha = 102) = False ∧ (Ha = 2002) = False ∧ (Ha = Hb) = False ∧ (2002 = Ha) = False ∧ (2002 = Hb) = False ∧ (Hb = 102) = False ∧ (Hb = Ha) = False ∧ (Hb = 2002) = False ∧ 102 < m ∧ (∀ qz, 102 < m + qz) ∧ (∀ qz, (102 = m + qz) = False) ∧ (∀ qz, (m + qz = 102) = False) ∧ Ha < m ∧ (∀ qz, Ha < m + qz) ∧ (∀ qz, (Ha = m + qz) = False) ∧ (∀ qz, (m + qz = Ha) = False) ∧ 2002 < m ∧ (∀ qz, 2002 < m + qz) ∧ (∀ qz, (2002 = m + qz) = False) ∧ (∀ qz, (m + qz = 2002) = False) ∧ Hb < m ∧ (∀ qz, Hb < m + qz) ∧ (∀ qz, (Hb = m + qz) = False) ∧ (∀ qz, (m + qz = Hb) = False) ∧ (∀ qz, (m + qz < m) = False) := ⟨eq_false (by omega), eq_false (by omega), eq_false (by omega), eq_false (by omega), eq_false (by omega), eq_false (by omega), eq_false (by omega), eq_false (by omega), eq_false (by omega), eq_false (by omega), by omega, fun qz => by omega, fun qz => eq_false (by omega), fun qz => eq_false (by omega), by omega, fun qz => by omega, fun qz => eq_false (by omega), fun qz => eq_false (by omega), by omega, fun qz => by omega, fun qz => eq_false (by omega), fun qz => eq_false (by omega), by omega, fun qz => by omega, fun qz => eq_false (by omega), fun qz => eq_false (by omega), fun qz => eq_false (by omega)⟩
  have hF := And.intro (hB) (hA)
  repeat (first | refine wD1 ?_ | refine wD2 ?_ | refine wE1 ?_ | refine wE2 ?_ | (refine wE3 ?_; intro _) | (refine wE4 ?_; intro _) | refine wN ?_ | ((with_reducible show evIs _ (_ :: _) _ _); first | refine wQ ?_ | refine wF ?_ | refine wG ?_ | refine wT ?_ | refine wM ?_ | refine wS ?_ | refine wP ?_ | refine wJ ?_ | refine wX ?_ | refine wY ?_ | refine wZ ?_))
  clear hF
  repeat refine evDone ?_
  try (show AW _ _ _ _ _)
  refine AW.fit (st' := mkS [(0, .sl .fro (l.map Item.av)), (1, .int .i64 now), (2, .int .i64 later), (7, .ptr 102 0 0), (8, .ptr 2002 0 0)] [(102, ⟨2, true, [.agg [.hdr Ha 0 xs.length, .bool true]]⟩), (Ha, ⟨2, false, xs.map Item.av⟩), (2002, ⟨2, true, [.agg [.hdr Hb 0 xs.length, .bool true]]⟩), (Hb, ⟨2, false, xs.map Item.av⟩)] (m)) ?_ ?_
  · refine Fit.mk _ _ _ (by simp [hB, hA, conv2, newEmp, convs_refl, convs, conv]) (by simp [hB, hA, heapFit, newEmp, conv2s, conv2, convs_refl, convs, conv]) (by intro q hq; first | (simp at hq; done) | (simp at hq; omega) | (simp at hq; simp; omega))
  rw [mkS_eq]
  obtain ⟨a, p, ha⟩ : ∃ a p, (a, p) = popF (xs.length + 1) xs now := ⟨_, _, rfl⟩
  obtain ⟨b, q, hb⟩ : ∃ b q, (b, q) = popF (p.length + 1) p later := ⟨_, _, rfl⟩
  obtain ⟨c, r, hc⟩ : ∃ c r, (c, r) = popF (xs.length + 1) xs later := ⟨_, _, rfl⟩
  obtain ⟨e, s, he⟩ : ∃ e s, (e, s) = popF (r.length + 1) r later := ⟨_, _, rfl⟩
  obtain ⟨hl1, hl2, hl3, hl4, hl5, hl6, hl7, hl8, hl9⟩ := split_law xs hhp (by omega) a p b q c r ha hb hc
  rw [← he] at hl4
  dsimp only at hl4
  subst hl4
  have h13 := f13 m 102 Ha (by omega) (by omega) (by omega) xs now (by omega)
  rw [← ha] at h13
  dsimp only at h13
  simp only [Qs, box, items, List.map_nil, List.length_nil] at h13
  repeat refine AW.seq ?_
  refine AW.reg ?_
  have hF := hB
  repeat (first | refine wD1 ?_ | refine wD2 ?_ | refine wE1 ?_ | refine wE2 ?_ | (refine wE3 ?_; intro _) | (refine wE4 ?_; intro _) | refine wN ?_ | ((with_reducible show evIs _ (_ :: _) _ _); first | refine wQ ?_ | refine wF ?_ | refine wG ?_ | refine wT ?_ | refine wM ?_ | refine wS ?_ | refine wP ?_ | refine wJ ?_ | refine wX ?_ | refine wY ?_ | refine wZ ?_))
  clear hF
  repeat refine evDone ?_
  try (show AW _ _ _ _ _)
  have hF := hB
  refine wL (hA := h13) ?_
  clear hF
  rintro _ m1 _ ⟨ra, hr1, hr2, rfl, rfl⟩
  have hC : (102 = Ha) = False ∧ (102 = Hb) = False ∧ (102 = ra) = False ∧ (Ha = 102) = False ∧ (Ha = 2002) = False ∧ (Ha = Hb) = False ∧ (Ha = ra) = False ∧ (2002 = Ha) = False ∧ (2002 = Hb) = False ∧ (2002 = ra) = False ∧ (Hb = 102) = False ∧ (Hb = Ha) = False ∧ (Hb = 2002) = False ∧ (Hb = ra) = False ∧ (ra = 102) = False ∧ (ra = Ha) = False ∧ (ra = 2002) = False ∧ (ra = Hb) = False ∧ 102 < m1 ∧ (∀ qz, 102 < m1 + qz) ∧ (∀ qz, (102 = m1 + qz) = False) ∧ (∀ qz, (m1 + qz = 102) = False) ∧ Ha < m1 ∧ (∀ qz, Ha < m1 + qz) ∧ (∀ qz, (Ha = m1 + qz) = False) ∧ (∀ qz, (m1 + qz = Ha) = False) ∧ 2002 < m1 ∧ (∀ qz, 2002 < m1 + qz) ∧ (∀ qz, (2002 = m1 + qz) = False) ∧ (∀ qz, (m1 + qz = 2002) = False) ∧ Hb < m1 ∧ (∀ qz, Hb < m1 + qz) ∧ (∀ qz, (Hb = m1 + qz) = False) ∧ (∀ qz, (m1 + qz = Hb) = False) ∧ ra < m1 ∧ (∀ qz, ra < m1 + qz) ∧ (∀ qz, (ra = m1 + qz) = False) ∧ (∀ qz, (m1 + qz = ra) = False) ∧ (∀ qz, (m1 + qz < m1) = False) := ⟨eq_false (by omega), eq_false (by omega), eq_false (by omega), eq_false (by omega), eq_false (by omega), eq_false (by omega), eq_false (by omega), eq_false (by omega), eq_false (by omega), eq_false (by omega), eq_false (by omega), eq_false (by omega), eq_false (by omega), eq_false (by omega), eq_false (by omega), eq_false (by omega), eq_false (by omega), eq_false (by omega), by omega, fun qz => by omega, fun qz => eq_false (by omega), fun qz => eq_false (by omega), by omega, fun qz => by omega, fun qz => eq_false (by omega), fun qz => eq_false (by omega), by omega, fun qz => by omega, fun qz => eq_false (by omega), fun qz => eq_false (by omega), by omega, fun qz => by omega, fun qz => eq_false (by omega), fun qz => eq_false (by omega), by omega, fun qz => by omega, fun qz => eq_false (by omega), fun qz => eq_false (by omega), fun qz => eq_false (by omega)⟩
  have hF := And.intro (hB) (hC)
  repeat (first | refine wD1 ?_ | refine wD2 ?_ | refine wE1 ?_ | refine wE2 ?_ | (refine wE3 ?_; intro _) | (refine wE4 ?_; intro _) | refine wN ?_ | ((with_reducible show evIs _ (_ :: _) _ _); first | refine wQ ?_ | refine wF ?_ | refine wG ?_ | refine wT ?_ | refine wM ?_ | refine wS ?_ | refine wP ?_ | refine wJ ?_ | refine wX ?_ | refine wY ?_ | refine wZ ?_))
  clear hF
  repeat refine evDone ?_
  try (show AW _ _ _ _ _)
  refine AW.fit (st' := mkS [(0, .sl .fro (l.map Item.av)), (1, .int .i64 now), (2, .int .i64 later), (7, .ptr 102 0 0), (8, .ptr 2002 0 0), (9, .hdr ra 0 a.length)] [(102, ⟨2, true, [.agg [.hdr Ha 0 p.length, .bool true]]⟩), (Ha, ⟨2, false, p.map Item.av⟩), (2002, ⟨2, true, [.agg [.hdr Hb 0 xs.length, .bool true]]⟩), (Hb, ⟨2, false, xs.map Item.av⟩), (ra, ⟨2, false, a.map Item.av⟩)] (m1)) ?_ ?_
  · refine Fit.mk _ _ _ (by simp [hB, hC, conv2, newEmp, convs_refl, convs, conv]) (by simp [hB, hC, heapFit, newEmp, conv2s, conv2, convs_refl, convs, conv]) (by intro q hq; first | (simp at hq; done) | (simp at hq; omega) | (simp at hq; simp; omega))
  rw [mkS_eq]
  repeat refine AW.seq ?_
  refine AW.reg ?_
  have hF := hC
  repeat (first | refine wD1 ?_ | refine wD2 ?_ | refine wE1 ?_ | refine wE2 ?_ | (refine wE3 ?_; intro _) | (refine wE4 ?_; intro _) | refine wN ?_ | ((with_reducible show evIs _ (_ :: _) _ _); first | refine wQ ?_ | refine wF ?_ | refine wG ?_ | refine wT ?_ | refine wM ?_ | refine wS ?_ | refine wP ?_ | refine wJ ?_ | refine wX ?_ | refine wY ?_ | refine wZ ?_))
  clear hF
  repeat refine evDone ?_
  try (show AW _ _ _ _ _)
  refine AW.endE (fun g : Nat => mkS [(0, .sl .fro (l.map Item.av)), (1, .int .i64 now), (2, .int .i64 later), (7, .ptr 102 0 0), (8, .ptr 2002 0 0), (9, .hdr ra 0 a.length)] [(102, ⟨2, true, [.agg [.hdr Ha 0 p.length, .bool true]]⟩), (Ha, ⟨2, false, p.map Item.av⟩), (2002, ⟨2, true, [.agg [.hdr Hb 0 xs.length, .bool true]]⟩), (Hb, ⟨2, false, xs.map Item.av⟩), (ra, ⟨2, false, a.map Item.av⟩)] g) (fun g => m1 ≤ g) ?_ ?_
  · refine AW.block ?_
    refine AW.loop (fun g : Nat × Nat => g.1 ≤ a.length ∧ m1 ≤ g.2) (fun g => mkS [(0, .sl .fro (l.map Item.av)), (1, .int .i64 now), (2, .int .i64 later), (7, .ptr 102 0 0), (8, .ptr 2002 0 0), (9, .hdr ra 0 a.length), (39, .hdr ra 0 a.length), (40, .int .i64 a.length), (41, .int .i64 g.1)] [(102, ⟨2, true, [.agg [.hdr Ha 0 p.length, .bool true]]⟩), (Ha, ⟨2, false, p.map Item.av⟩), (2002, ⟨2, true, [.agg [.hdr Hb 0 xs.length, .bool true]]⟩), (Hb, ⟨2, false, xs.map Item.av⟩), (ra, ⟨2, false, a.map Item.av⟩)] g.2) (fun g => a.length - g.1) (0, m1) ⟨by simp, by simp⟩ ?_ ?_
    · refine Fit.mk _ _ _ (by simp [hC, conv2, newEmp, convs_refl, convs, conv]) (by simp [hC, heapFit, newEmp, conv2s, conv2, convs_refl, convs, conv]) (by intro q hq; first | (simp at hq; done) | (simp at hq; omega) | (simp at hq; simp; omega))
    rintro ⟨i, n⟩ ⟨hi, hn⟩
    dsimp only at hi hn ⊢
    have hD : (102 = Ha) = False ∧ (102 = Hb) = False ∧ (102 = ra) = False ∧ (Ha = 102) = False ∧ (Ha = 2002) = False ∧ (Ha = Hb) = False ∧ (Ha = ra) = False ∧ (2002 = Ha) = False ∧ (2002 = Hb) = False ∧ (2002 = ra) = False ∧ (Hb = 102) = False ∧ (Hb = Ha) = False ∧ (Hb = 2002) = False ∧ (Hb = ra) = False ∧ (ra = 102) = False ∧ (ra = Ha) = False ∧ (ra = 2002) = False ∧ (ra = Hb) = False ∧ 102 < n ∧ (∀ qz, 102 < n + qz) ∧ (∀ qz, (102 = n + qz) = False) ∧ (∀ qz, (n + qz = 102) = False) ∧ Ha < n ∧ (∀ qz, Ha < n + qz) ∧ (∀ qz, (Ha = n + qz) = False) ∧ (∀ qz, (n + qz = Ha) = False) ∧ 2002 < n ∧ (∀ qz, 2002 < n + qz) ∧ (∀ qz, (2002 = n + qz) = False) ∧ (∀ qz, (n + qz = 2002) = False) ∧ Hb < n ∧ (∀ qz, Hb < n + qz) ∧ (∀ qz, (Hb = n + qz) = False) ∧ (∀ qz, (n + qz = Hb) = False) ∧ ra < n ∧ (∀ qz, ra < n + qz) ∧ (∀ qz, (ra = n + qz) = False) ∧ (∀ qz, (n + qz = ra) = False) ∧ (∀ qz, (n + qz < n) = False) := ⟨eq_false (by omega), eq_false (by omega), eq_false (by omega), eq_false (by omega), eq_false (by omega), eq_false (by omega), eq_false (by omega), eq_false (by omega), eq_false (by omega), eq_false (by omega), eq_false (by omega), eq_false (by omega), eq_false (by omega), eq_false (by omega), eq_false (by omega), eq_false (by omega), eq_false (by omega), eq_false (by omega), by omega, fun qz => by omega, fun qz => eq_false (by omega), fun qz => eq_false (by omega), by omega, fun qz => by omega, fun qz => eq_false (by omega), fun qz => eq_false (by omega), by omega, fun qz => by omega, fun qz => eq_false (by omega), fun qz => eq_false (by omega), by omega, fun qz => by omega, fun qz => eq_false (by omega), fun qz => eq_false (by omega), by omega, fun qz => by omega, fun qz => eq_false (by omega), fun qz => eq_false (by omega), fun qz => eq_false (by omega)⟩
    repeat refine AW.seq ?_
    refine AW.reg ?_
    by_cases hlt : i < a.length
    · obtain ⟨x, hx⟩ : ∃ x, a[i]? = some x := ⟨_, List.getElem?_eq_getElem hlt⟩
      have he := elem_map (f := Item.av) hx
      have hdue := hl1 x (List.mem_of_getElem? hx)
      obtain ⟨x1, x2⟩ := x
      dsimp only at hdue
      have hdue2 : ¬ now < x1 := by omega
      simp only [Item.av] at he
      have hF := And.intro (hlt) (hD)
      repeat (first | refine wD1 ?_ | refine wD2 ?_ | refine wE1 ?_ | refine wE2 ?_ | (refine wE3 ?_; intro _) | (refine wE4 ?_; intro _) | refine wN ?_ | ((with_reducible show evIs _ (_ :: _) _ _); first | refine wQ ?_ | refine wF ?_ | refine wG ?_ | refine wT ?_ | refine wM ?_ | refine wS ?_ | refine wP ?_ | refine wJ ?_ | refine wX ?_ | refine wY ?_ | refine wZ ?_))
      clear hF
      repeat refine evDone ?_
      try (show AW _ _ _ _ _)
      repeat refine AW.seq ?_
      refine AW.condT (by simp []) (by simp []) ?_
      refine AW.skip ?_
      show AW _ _ _ _ _
      refine AW.seq (AW.block ?_)
      repeat refine AW.seq ?_
      refine AW.reg ?_
      have hF := And.intro (hlt) (And.intro (he) (hD))
      repeat (first | refine wD1 ?_ | refine wD2 ?_ | refine wE1 ?_ | refine wE2 ?_ | (refine wE3 ?_; intro _) | (refine wE4 ?_; intro _) | refine wN ?_ | ((with_reducible show evIs _ (_ :: _) _ _); first | refine wQ ?_ | refine wF ?_ | refine wG ?_ | refine wT ?_ | refine wM ?_ | refine wS ?_ | refine wP ?_ | refine wJ ?_ | refine wX ?_ | refine wY ?_ | refine wZ ?_))
      clear hF
      repeat refine evDone ?_
      try (show AW _ _ _ _ _)
      repeat refine AW.seq ?_
      refine AW.reg ?_
      have hF := And.intro (hdue2) (hD)
      repeat (first | refine wD1 ?_ | refine wD2 ?_ | refine wE1 ?_ | refine wE2 ?_ | (refine wE3 ?_; intro _) | (refine wE4 ?_; intro _) | refine wN ?_ | ((with_reducible show evIs _ (_ :: _) _ _); first | refine wQ ?_ | refine wF ?_ | refine wG ?_ | refine wT ?_ | refine wM ?_ | refine wS ?_ | refine wP ?_ | refine wJ ?_ | refine wX ?_ | refine wY ?_ | refine wZ ?_))
      clear hF
      repeat refine evDone ?_
      try (show AW _ _ _ _ _)
      repeat refine AW.seq ?_
      refine AW.condF (by simp [hdue2]) (by simp [hdue2]) ?_
      refine AW.skip ?_
      show AW _ _ _ _ _
      refine AW.reg ?_
      have hw : IntKind.i64.wrap ((i : Int) + 1) = (i : Int) + 1 := i64_in _ ⟨by omega, by omega⟩
      have hF := And.intro (hw) (hD)
      repeat (first | refine wD1 ?_ | refine wD2 ?_ | refine wE1 ?_ | refine wE2 ?_ | (refine wE3 ?_; intro _) | (refine wE4 ?_; intro _) | refine wN ?_ | ((with_reducible show evIs _ (_ :: _) _ _); first | refine wQ ?_ | refine wF ?_ | refine wG ?_ | refine wT ?_ | refine wM ?_ | refine wS ?_ | refine wP ?_ | refine wJ ?_ | refine wX ?_ | refine wY ?_ | refine wZ ?_))
      clear hF
      repeat refine evDone ?_
      try (show AW _ _ _ _ _)
      refine ⟨(i + 1, n + 60), ⟨by dsimp only; omega, by dsimp only; omega⟩, by dsimp only; omega, ?_⟩
      have hf : 102 < n + 60 ∧ Ha < n + 60 ∧ 2002 < n + 60 ∧ Hb < n + 60 ∧ ra < n + 60 := ⟨by omega, by omega, by omega, by omega, by omega⟩
      refine Fit.mk _ _ _ (by simp [hw, hD, hf, conv2, newEmp, convs_refl, convs, conv]) (by simp [hw, hD, hf, heapFit, newEmp, conv2s, conv2, convs_refl, convs, conv]) (by intro q hq; first | (simp at hq; done) | (simp at hq; omega) | (simp at hq; simp; omega))
    · have hlt2 : ¬ (i : Int) < a.length := by omega
      have hF := And.intro (hlt) (hlt2)
      repeat (first | refine wD1 ?_ | refine wD2 ?_ | refine wE1 ?_ | refine wE2 ?_ | (refine wE3 ?_; intro _) | (refine wE4 ?_; intro _) | refine wN ?_ | ((with_reducible show evIs _ (_ :: _) _ _); first | refine wQ ?_ | refine wF ?_ | refine wG ?_ | refine wT ?_ | refine wM ?_ | refine wS ?_ | refine wP ?_ | refine wJ ?_ | refine wX ?_ | refine wY ?_ | refine wZ ?_))
      clear hF
      repeat refine evDone ?_
      try (show AW _ _ _ _ _)
      repeat refine AW.seq ?_
      refine AW.condF (by simp []) (by simp []) ?_
      refine AW.exit ?_
      refine ⟨rfl, n, hn, ?_⟩
      refine Fit.mk _ _ _ (by simp [hD, conv2, newEmp, convs_refl, convs, conv]) (by simp [hD, heapFit, newEmp, conv2s, conv2, convs_refl, convs, conv]) (by intro q hq; first | (simp at hq; done) | (simp at hq; omega) | (simp at hq; simp; omega))
  intro n hn
  show AW _ _ _ _ _
  rw [mkS_eq]
  have hD : (102 = Ha) = False ∧ (102 = Hb) = False ∧ (102 = ra) = False ∧ (Ha = 102) = False ∧ (Ha = 2002) = False ∧ (Ha = Hb) = False ∧ (Ha = ra) = False ∧ (2002 = Ha) = False ∧ (2002 = Hb) = False ∧ (2002 = ra) = False ∧ (Hb = 102) = False ∧ (Hb = Ha) = False ∧ (Hb = 2002) = False ∧ (Hb = ra) = False ∧ (ra = 102) = False ∧ (ra = Ha) = False ∧ (ra = 2002) = False ∧ (ra = Hb) = False ∧ 102 < n ∧ (∀ qz, 102 < n + qz) ∧ (∀ qz, (102 = n + qz) = False) ∧ (∀ qz, (n + qz = 102) = False) ∧ Ha < n ∧ (∀ qz, Ha < n + qz) ∧ (∀ qz, (Ha = n + qz) = False) ∧ (∀ qz, (n + qz = Ha) = False) ∧ 2002 < n ∧ (∀ qz, 2002 < n + qz) ∧ (∀ qz, (2002 = n + qz) = False) ∧ (∀ qz, (n + qz = 2002) = False) ∧ Hb < n ∧ (∀ qz, Hb < n + qz) ∧ (∀ qz, (Hb = n + qz) = False) ∧ (∀ qz, (n + qz = Hb) = False) ∧ ra < n ∧ (∀ qz, ra < n + qz) ∧ (∀ qz, (ra = n + qz) = False) ∧ (∀ qz, (n + qz = ra) = False) ∧ (∀ qz, (n + qz < n) = False) := ⟨eq_false (by omega), eq_false (by omega), eq_false (by omega), eq_false (by omega), eq_false (by omega), eq_false (by omega), eq_false (by omega), eq_false (by omega), eq_false (by omega), eq_false (by omega), eq_false (by omega), eq_false (by omega), eq_false (by omega), eq_false (by omega), eq_false (by omega), eq_false (by omega), eq_false (by omega), eq_false (by omega), by omega, fun qz => by omega, fun qz => eq_false (by omega), fun qz => eq_false (by omega), by omega, fun qz => by omega, fun qz => eq_false (by omega), fun qz => eq_false (by omega), by omega, fun qz => by omega, fun qz => eq_false (by omega), fun qz => eq_false (by omega), by omega, fun qz => by omega, fun qz => eq_false (by omega), fun qz => eq_false (by omega), by omega, fun qz => by omega, fun qz => eq_false (by omega), fun qz => eq_false (by omega), fun qz => eq_false (by omega)⟩
  have hby : a.length * 16 ≤ 140737488355328 ∧ a.length ≤ 9223372036854775807 ∧ (a.map Item.av).take a.length = a.map Item.av ∧ (a.map Item.av).map clC = a.map Item.av ∧ (∀ v ∈ a.map Item.av, (cellsOf v).length = 2) := ⟨by omega, by omega, List.take_of_length_le (by simp), items_cl a, fun v hv => by obtain ⟨y, _, rfl⟩ := List.mem_map.1 hv; simp⟩
  repeat refine AW.seq ?_
  refine AW.reg ?_
  have hF := And.intro (hby) (hD)
  repeat (first | refine wD1 ?_ | refine wD2 ?_ | refine wE1 ?_ | refine wE2 ?_ | (refine wE3 ?_; intro _) | (refine wE4 ?_; intro _) | refine wN ?_ | ((with_reducible show evIs _ (_ :: _) _ _); first | refine wQ ?_ | refine wF ?_ | refine wG ?_ | refine wT ?_ | refine wM ?_ | refine wS ?_ | refine wP ?_ | refine wJ ?_ | refine wX ?_ | refine wY ?_ | refine wZ ?_))
  clear hF
  repeat refine evDone ?_
  try (show AW _ _ _ _ _)
  have hF := And.intro hby hD
  refine wP (hp := by (simp [hF, mkS, litA, fillA, maxI, appOk, appS]); intro c x hx hc; simp [Item.av] at hc; rcases hc with rfl | rfl <;> simp) ?_
  clear hF
  have hF := And.intro (hby) (hD)
  repeat (first | refine wD1 ?_ | refine wD2 ?_ | refine wE1 ?_ | refine wE2 ?_ | (refine wE3 ?_; intro _) | (refine wE4 ?_; intro _) | refine wN ?_ | ((with_reducible show evIs _ (_ :: _) _ _); first | refine wQ ?_ | refine wF ?_ | refine wG ?_ | refine wT ?_ | refine wM ?_ | refine wS ?_ | refine wP ?_ | refine wJ ?_ | refine wX ?_ | refine wY ?_ | refine wZ ?_))
  clear hF
  repeat refine evDone ?_
  try (show AW _ _ _ _ _)
  obtain ⟨n2, hn2⟩ : ∃ n2, n2 = n + 5000 := ⟨_, rfl⟩
  obtain ⟨rb, hrb⟩ : ∃ rb, rb = n + 49 := ⟨_, rfl⟩
  rw [← hrb]
  have hE : (102 = Ha) = False ∧ (102 = Hb) = False ∧ (102 = rb) = False ∧ (Ha = 102) = False ∧ (Ha = 2002) = False ∧ (Ha = Hb) = False ∧ (Ha = rb) = False ∧ (2002 = Ha) = False ∧ (2002 = Hb) = False ∧ (2002 = rb) = False ∧ (Hb = 102) = False ∧ (Hb = Ha) = False ∧ (Hb = 2002) = False ∧ (Hb = rb) = False ∧ (rb = 102) = False ∧ (rb = Ha) = False ∧ (rb = 2002) = False ∧ (rb = Hb) = False ∧ 102 < n2 ∧ (∀ qz, 102 < n2 + qz) ∧ (∀ qz, (102 = n2 + qz) = False) ∧ (∀ qz, (n2 + qz = 102) = False) ∧ Ha < n2 ∧ (∀ qz, Ha < n2 + qz) ∧ (∀ qz, (Ha = n2 + qz) = False) ∧ (∀ qz, (n2 + qz = Ha) = False) ∧ 2002 < n2 ∧ (∀ qz, 2002 < n2 + qz) ∧ (∀ qz, (2002 = n2 + qz) = False) ∧ (∀ qz, (n2 + qz = 2002) = False) ∧ Hb < n2 ∧ (∀ qz, Hb < n2 + qz) ∧ (∀ qz, (Hb = n2 + qz) = False) ∧ (∀ qz, (n2 + qz = Hb) = False) ∧ rb < n2 ∧ (∀ qz, rb < n2 + qz) ∧ (∀ qz, (rb = n2 + qz) = False) ∧ (∀ qz, (n2 + qz = rb) = False) ∧ (∀ qz, (n2 + qz < n2) = False) := ⟨eq_false (by omega), eq_false (by omega), eq_false (by omega), eq_false (by omega), eq_false (by omega), eq_false (by omega), eq_false (by omega), eq_false (by omega), eq_false (by omega), eq_false (by omega), eq_false (by omega), eq_false (by omega), eq_false (by omega), eq_false (by omega), eq_false (by omega), eq_false (by omega), eq_false (by omega), eq_false (by omega), by omega, fun qz => by omega, fun qz => eq_false (by omega), fun qz => eq_false (by omega), by omega, fun qz => by omega, fun qz => eq_false (by omega), fun qz => eq_false (by omega), by omega, fun qz => by omega, fun qz => eq_false (by omega), fun qz => eq_false (by omega), by omega, fun qz => by omega, fun qz => eq_false (by omega), fun qz => eq_false (by omega), by omega, fun qz => by omega, fun qz => eq_false (by omega), fun qz => eq_false (by omega), fun qz => eq_false (by omega)⟩
  refine AW.fit (st' := mkS [(0, .sl .fro (l.map Item.av)), (1, .int .i64 now), (2, .int .i64 later), (7, .ptr 102 0 0), (8, .ptr 2002 0 0), (12, .hdr rb 0 a.length)] [(102, ⟨2, true, [.agg [.hdr Ha 0 p.length, .bool true]]⟩), (Ha, ⟨2, false, p.map Item.av⟩), (2002, ⟨2, true, [.agg [.hdr Hb 0 xs.length, .bool true]]⟩), (Hb, ⟨2, false, xs.map Item.av⟩), (rb, ⟨2, false, a.map Item.av⟩)] (n2)) ?_ ?_
  · refine Fit.mk _ _ _ (by simp [hD, hE, conv2, newEmp, convs_refl, convs, conv]) (by simp [hD, hE, heapFit, newEmp, conv2s, conv2, convs_refl, convs, conv]) (by intro q hq; first | (simp at hq; done) | (simp at hq; omega) | (simp at hq; simp; omega))
  rw [mkS_eq]
  have h13b := f13 (n2 + 1000) 102 Ha (by omega) (by omega) (by omega) p later (by omega)
  rw [← hb] at h13b
  dsimp only at h13b
  simp only [Qs, box, items, List.map_nil, List.length_nil] at h13b
  repeat refine AW.seq ?_
  refine AW.reg ?_
  have hF := hE
  repeat (first | refine wD1 ?_ | refine wD2 ?_ | refine wE1 ?_ | refine wE2 ?_ | (refine wE3 ?_; intro _) | (refine wE4 ?_; intro _) | refine wN ?_ | ((with_reducible show evIs _ (_ :: _) _ _); first | refine wQ ?_ | refine wF ?_ | refine wG ?_ | refine wT ?_ | refine wM ?_ | refine wS ?_ | refine wP ?_ | refine wJ ?_ | refine wX ?_ | refine wY ?_ | refine wZ ?_))
  clear hF
  repeat refine evDone ?_
  try (show AW _ _ _ _ _)
  have hF := hE
  refine wL (hA := h13b) ?_
  clear hF
  rintro _ m3 _ ⟨rd, hr3, hr4, rfl, rfl⟩
  obtain ⟨n3, hn3⟩ : ∃ n3, n3 = m3 + n2 + 5000 := ⟨_, rfl⟩
  have hG : (102 = Ha) = False ∧ (102 = Hb) = False ∧ (102 = rb) = False ∧ (102 = rd) = False ∧ (Ha = 102) = False ∧ (Ha = 2002) = False ∧ (Ha = Hb) = False ∧ (Ha = rb) = False ∧ (Ha = rd) = False ∧ (2002 = Ha) = False ∧ (2002 = Hb) = False ∧ (2002 = rb) = False ∧ (2002 = rd) = False ∧ (Hb = 102) = False ∧ (Hb = Ha) = False ∧ (Hb = 2002) = False ∧ (Hb = rb) = False ∧ (Hb = rd) = False ∧ (rb = 102) = False ∧ (rb = Ha) = False ∧ (rb = 2002) = False ∧ (rb = Hb) = False ∧ (rb = rd) = False ∧ (rd = 102) = False ∧ (rd = Ha) = False ∧ (rd = 2002) = False ∧ (rd = Hb) = False ∧ (rd = rb) = False ∧ 102 < n3 ∧ (∀ qz, 102 < n3 + qz) ∧ (∀ qz, (102 = n3 + qz) = False) ∧ (∀ qz, (n3 + qz = 102) = False) ∧ Ha < n3 ∧ (∀ qz, Ha < n3 + qz) ∧ (∀ qz, (Ha = n3 + qz) = False) ∧ (∀ qz, (n3 + qz = Ha) = False) ∧ 2002 < n3 ∧ (∀ qz, 2002 < n3 + qz) ∧ (∀ qz, (2002 = n3 + qz) = False) ∧ (∀ qz, (n3 + qz = 2002) = False) ∧ Hb < n3 ∧ (∀ qz, Hb < n3 + qz) ∧ (∀ qz, (Hb = n3 + qz) = False) ∧ (∀ qz, (n3 + qz = Hb) = False) ∧ rb < n3 ∧ (∀ qz, rb < n3 + qz) ∧ (∀ qz, (rb = n3 + qz) = False) ∧ (∀ qz, (n3 + qz = rb) = False) ∧ rd < n3 ∧ (∀ qz, rd < n3 + qz) ∧ (∀ qz, (rd = n3 + qz) = False) ∧ (∀ qz, (n3 + qz = rd) = False) ∧ (∀ qz, (n3 + qz < n3) = False) ∧ (n2 + 1000 ≤ n2 + 55) = False := ⟨eq_false (by omega), eq_false (by omega), eq_false (by omega), eq_false (by omega), eq_false (by omega), eq_false (by omega), eq_false (by omega), eq_false (by omega), eq_false (by omega), eq_false (by omega), eq_false (by omega), eq_false (by omega), eq_false (by omega), eq_false (by omega), eq_false (by omega), eq_false (by omega), eq_false (by omega), eq_false (by omega), eq_false (by omega), eq_false (by omega), eq_false (by omega), eq_false (by omega), eq_false (by omega), eq_false (by omega), eq_false (by omega), eq_false (by omega), eq_false (by omega), eq_false (by omega), by omega, fun qz => by omega, fun qz => eq_false (by omega), fun qz => eq_false (by omega), by omega, fun qz => by omega, fun qz => eq_false (by omega), fun qz => eq_false (by omega), by omega, fun qz => by omega, fun qz => eq_false (by omega), fun qz => eq_false (by omega), by omega, fun qz => by omega, fun qz => eq_false (by omega), fun qz => eq_false (by omega), by omega, fun qz => by omega, fun qz => eq_false (by omega), fun qz => eq_false (by omega), by omega, fun qz => by omega, fun qz => eq_false (by omega), fun qz => eq_false (by omega), fun qz => eq_false (by omega), eq_false (by omega)⟩
  have hby2 : (a.length + b.length) * 16 ≤ 140737488355328 ∧ a.length + b.length ≤ 9223372036854775807 ∧ (b.map Item.av).take b.length = b.map Item.av ∧ (a.map Item.av).take a.length = a.map Item.av ∧ (b.map Item.av).map clC = b.map Item.av := ⟨by omega, by omega, List.take_of_length_le (by simp), List.take_of_length_le (by simp), items_cl b⟩
  have hF := And.intro (hby2) (And.intro (hE) (hG))
  repeat (first | refine wD1 ?_ | refine wD2 ?_ | refine wE1 ?_ | refine wE2 ?_ | (refine wE3 ?_; intro _) | (refine wE4 ?_; intro _) | refine wN ?_ | ((with_reducible show evIs _ (_ :: _) _ _); first | refine wQ ?_ | refine wF ?_ | refine wG ?_ | refine wT ?_ | refine wM ?_ | refine wS ?_ | refine wP ?_ | refine wJ ?_ | refine wX ?_ | refine wY ?_ | refine wZ ?_))
  clear hF
  repeat refine evDone ?_
  try (show AW _ _ _ _ _)
  have hF := And.intro hby2 (And.intro hE hG)
  refine wP (hp := by (simp [hF, mkS, litA, fillA, maxI, appOk, appS]); intro c x hx hc; simp [Item.av] at hc; rcases hc with rfl | rfl <;> simp) ?_
  clear hF
  have hF := And.intro (hby2) (And.intro (hE) (hG))
  repeat (first | refine wD1 ?_ | refine wD2 ?_ | refine wE1 ?_ | refine wE2 ?_ | (refine wE3 ?_; intro _) | (refine wE4 ?_; intro _) | refine wN ?_ | ((with_reducible show evIs _ (_ :: _) _ _); first | refine wQ ?_ | refine wF ?_ | refine wG ?_ | refine wT ?_ | refine wM ?_ | refine wS ?_ | refine wP ?_ | refine wJ ?_ | refine wX ?_ | refine wY ?_ | refine wZ ?_))
  clear hF
  repeat refine evDone ?_
  try (show AW _ _ _ _ _)
  obtain ⟨re, hre⟩ : ∃ re, re = n2 + 55 := ⟨_, rfl⟩
  rw [← hre]
  have hcl : c.length = a.length + b.length := by rw [← hl2]; simp
  have hcm : c.map Item.av = a.map Item.av ++ b.map Item.av := by rw [← hl2]; simp
  have hI : (102 = Ha) = False ∧ (102 = Hb) = False ∧ (102 = re) = False ∧ (Ha = 102) = False ∧ (Ha = 2002) = False ∧ (Ha = Hb) = False ∧ (Ha = re) = False ∧ (2002 = Ha) = False ∧ (2002 = Hb) = False ∧ (2002 = re) = False ∧ (Hb = 102) = False ∧ (Hb = Ha) = False ∧ (Hb = 2002) = False ∧ (Hb = re) = False ∧ (re = 102) = False ∧ (re = Ha) = False ∧ (re = 2002) = False ∧ (re = Hb) = False ∧ 102 < n3 ∧ (∀ qz, 102 < n3 + qz) ∧ (∀ qz, (102 = n3 + qz) = False) ∧ (∀ qz, (n3 + qz = 102) = False) ∧ Ha < n3 ∧ (∀ qz, Ha < n3 + qz) ∧ (∀ qz, (Ha = n3 + qz) = False) ∧ (∀ qz, (n3 + qz = Ha) = False) ∧ 2002 < n3 ∧ (∀ qz, 2002 < n3 + qz) ∧ (∀ qz, (2002 = n3 + qz) = False) ∧ (∀ qz, (n3 + qz = 2002) = False) ∧ Hb < n3 ∧ (∀ qz, Hb < n3 + qz) ∧ (∀ qz, (Hb = n3 + qz) = False) ∧ (∀ qz, (n3 + qz = Hb) = False) ∧ re < n3 ∧ (∀ qz, re < n3 + qz) ∧ (∀ qz, (re = n3 + qz) = False) ∧ (∀ qz, (n3 + qz = re) = False) ∧ (∀ qz, (n3 + qz < n3) = False) := ⟨eq_false (by omega), eq_false (by omega), eq_false (by omega), eq_false (by omega), eq_false (by omega), eq_false (by omega), eq_false (by omega), eq_false (by omega), eq_false (by omega), eq_false (by omega), eq_false (by omega), eq_false (by omega), eq_false (by omega), eq_false (by omega), eq_false (by omega), eq_false (by omega), eq_false (by omega), eq_false (by omega), by omega, fun qz => by omega, fun qz => eq_false (by omega), fun qz => eq_false (by omega), by omega, fun qz => by omega, fun qz => eq_false (by omega), fun qz => eq_false (by omega), by omega, fun qz => by omega, fun qz => eq_false (by omega), fun qz => eq_false (by omega), by omega, fun qz => by omega, fun qz => eq_false (by omega), fun qz => eq_false (by omega), by omega, fun qz => by omega, fun qz => eq_false (by omega), fun qz => eq_false (by omega), fun qz => eq_false (by omega)⟩
  have hrd : (rb = re) = False ∧ (rd = re) = False ∧ (re = rb) = False ∧ (re = rd) = False := ⟨eq_false (by omega), eq_false (by omega), eq_false (by omega), eq_false (by omega)⟩
  refine AW.fit (st' := mkS [(0, .sl .fro (l.map Item.av)), (1, .int .i64 now), (2, .int .i64 later), (7, .ptr 102 0 0), (8, .ptr 2002 0 0), (12, .hdr re 0 c.length)] [(102, ⟨2, true, [.agg [.hdr Ha 0 q.length, .bool true]]⟩), (Ha, ⟨2, false, q.map Item.av⟩), (2002, ⟨2, true, [.agg [.hdr Hb 0 xs.length, .bool true]]⟩), (Hb, ⟨2, false, xs.map Item.av⟩), (re, ⟨2, false, c.map Item.av⟩)] (n3)) ?_ ?_
  · refine Fit.mk _ _ _ (by simp [hE, hG, hI, hrd, hcl, hcm, conv2, newEmp, convs_refl, convs, conv]) (by simp [hE, hG, hI, hrd, hcl, hcm, heapFit, newEmp, conv2s, conv2, convs_refl, convs, conv]) (by intro q hq; first | (simp at hq; done) | (simp at hq; omega) | (simp at hq; simp; omega))
  rw [mkS_eq]
  have h13c := f13 n3 2002 Hb (by omega) (by omega) (by omega) xs later (by omega)
  rw [← hc] at h13c
  dsimp only at h13c
  simp only [Qs, box, items, List.map_nil, List.length_nil] at h13c
  have h27 := f27 c (by omega)
  have h25q := f25 q (by omega)
  have h25r := f25 r (by omega)
  rw [hl3] at h25q
  have h27b := f27 (srt r) (by rw [srt_len]; omega)
  simp only [qv, items] at h27 h25q h25r h27b
  have hss : scs ((srt r).map Item.av) = true := items_scs _
  have hcs : (c.map Item.av).take c.length = c.map Item.av ∧ (c.map Item.av).map clC = c.map Item.av ∧ (q.map Item.av).take q.length = q.map Item.av ∧ (q.map Item.av).map clC = q.map Item.av ∧ (r.map Item.av).take r.length = r.map Item.av ∧ (r.map Item.av).map clC = r.map Item.av ∧ ((srt r).map Item.av).map clC = (srt r).map Item.av := ⟨List.take_of_length_le (by simp), items_cl c, List.take_of_length_le (by simp), items_cl q, List.take_of_length_le (by simp), items_cl r, items_cl (srt r)⟩
  repeat refine AW.seq ?_
  refine AW.reg ?_
  have hF := hI
  repeat (first | refine wD1 ?_ | refine wD2 ?_ | refine wE1 ?_ | refine wE2 ?_ | (refine wE3 ?_; intro _) | (refine wE4 ?_; intro _) | refine wN ?_ | ((with_reducible show evIs _ (_ :: _) _ _); first | refine wQ ?_ | refine wF ?_ | refine wG ?_ | refine wT ?_ | refine wM ?_ | refine wS ?_ | refine wP ?_ | refine wJ ?_ | refine wX ?_ | refine wY ?_ | refine wZ ?_))
  clear hF
  repeat refine evDone ?_
  try (show AW _ _ _ _ _)
  have hF := hI
  refine wL (hA := h13c) ?_
  clear hF
  rintro _ m5 _ ⟨rf, hr5, hr6, rfl, rfl⟩
  obtain ⟨n5, hn5⟩ : ∃ n5, n5 = n3 + m5 := ⟨_, rfl⟩
  have h13d := f13 n5 2002 Hb (by omega) (by omega) (by omega) r later (by omega)
  rw [← he] at h13d
  dsimp only at h13d
  simp only [Qs, box, items, List.map_nil, List.length_nil] at h13d
  have hJ : (102 = Ha) = False ∧ (102 = Hb) = False ∧ (102 = re) = False ∧ (102 = rf) = False ∧ (Ha = 102) = False ∧ (Ha = 2002) = False ∧ (Ha = Hb) = False ∧ (Ha = re) = False ∧ (Ha = rf) = False ∧ (2002 = Ha) = False ∧ (2002 = Hb) = False ∧ (2002 = re) = False ∧ (2002 = rf) = False ∧ (Hb = 102) = False ∧ (Hb = Ha) = False ∧ (Hb = 2002) = False ∧ (Hb = re) = False ∧ (Hb = rf) = False ∧ (re = 102) = False ∧ (re = Ha) = False ∧ (re = 2002) = False ∧ (re = Hb) = False ∧ (re = rf) = False ∧ (rf = 102) = False ∧ (rf = Ha) = False ∧ (rf = 2002) = False ∧ (rf = Hb) = False ∧ (rf = re) = False ∧ 102 < n5 ∧ (∀ qz, 102 < n5 + qz) ∧ (∀ qz, (102 = n5 + qz) = False) ∧ (∀ qz, (n5 + qz = 102) = False) ∧ Ha < n5 ∧ (∀ qz, Ha < n5 + qz) ∧ (∀ qz, (Ha = n5 + qz) = False) ∧ (∀ qz, (n5 + qz = Ha) = False) ∧ 2002 < n5 ∧ (∀ qz, 2002 < n5 + qz) ∧ (∀ qz, (2002 = n5 + qz) = False) ∧ (∀ qz, (n5 + qz = 2002) = False) ∧ Hb < n5 ∧ (∀ qz, Hb < n5 + qz) ∧ (∀ qz, (Hb = n5 + qz) = False) ∧ (∀ qz, (n5 + qz = Hb) = False) ∧ re < n5 ∧ (∀ qz, re < n5 + qz) ∧ (∀ qz, (re = n5 + qz) = False) ∧ (∀ qz, (n5 + qz = re) = False) ∧ rf < n5 ∧ (∀ qz, rf < n5 + qz) ∧ (∀ qz, (rf = n5 + qz) = False) ∧ (∀ qz, (n5 + qz = rf) = False) ∧ (∀ qz, (n5 + qz < n5) = False) := ⟨eq_false (by omega), eq_false (by omega), eq_false (by omega), eq_false (by omega), eq_false (by omega), eq_false (by omega), eq_false (by omega), eq_false (by omega), eq_false (by omega), eq_false (by omega), eq_false (by omega), eq_false (by omega), eq_false (by omega), eq_false (by omega), eq_false (by omega), eq_false (by omega), eq_false (by omega), eq_false (by omega), eq_false (by omega), eq_false (by omega), eq_false (by omega), eq_false (by omega), eq_false (by omega), eq_false (by omega), eq_false (by omega), eq_false (by omega), eq_false (by omega), eq_false (by omega), by omega, fun qz => by omega, fun qz => eq_false (by omega), fun qz => eq_false (by omega), by omega, fun qz => by omega, fun qz => eq_false (by omega), fun qz => eq_false (by omega), by omega, fun qz => by omega, fun qz => eq_false (by omega), fun qz => eq_false (by omega), by omega, fun qz => by omega, fun qz => eq_false (by omega), fun qz => eq_false (by omega), by omega, fun qz => by omega, fun qz => eq_false (by omega), fun qz => eq_false (by omega), by omega, fun qz => by omega, fun qz => eq_false (by omega), fun qz => eq_false (by omega), fun qz => eq_false (by omega)⟩
  have hF := And.intro (hI) (hJ)
  repeat (first | refine wD1 ?_ | refine wD2 ?_ | refine wE1 ?_ | refine wE2 ?_ | (refine wE3 ?_; intro _) | (refine wE4 ?_; intro _) | refine wN ?_ | ((with_reducible show evIs _ (_ :: _) _ _); first | refine wQ ?_ | refine wF ?_ | refine wG ?_ | refine wT ?_ | refine wM ?_ | refine wS ?_ | refine wP ?_ | refine wJ ?_ | refine wX ?_ | refine wY ?_ | refine wZ ?_))
  clear hF
  repeat refine evDone ?_
  try (show AW _ _ _ _ _)
  have hF := And.intro (hma) (And.intro (hcs) (And.intro (hI) (hJ)))
  refine wC (hA := h27) ?_
  clear hF
  have hF := And.intro (hI) (hJ)
  repeat (first | refine wD1 ?_ | refine wD2 ?_ | refine wE1 ?_ | refine wE2 ?_ | (refine wE3 ?_; intro _) | (refine wE4 ?_; intro _) | refine wN ?_ | ((with_reducible show evIs _ (_ :: _) _ _); first | refine wQ ?_ | refine wF ?_ | refine wG ?_ | refine wT ?_ | refine wM ?_ | refine wS ?_ | refine wP ?_ | refine wJ ?_ | refine wX ?_ | refine wY ?_ | refine wZ ?_))
  clear hF
  repeat refine evDone ?_
  try (show AW _ _ _ _ _)
  have hF := And.intro (hma) (And.intro (hcs) (And.intro (hss) (And.intro (hI) (hJ))))
  refine wC (hA := h25q) ?_
  clear hF
  have hF := And.intro (hI) (hJ)
  repeat (first | refine wD1 ?_ | refine wD2 ?_ | refine wE1 ?_ | refine wE2 ?_ | (refine wE3 ?_; intro _) | (refine wE4 ?_; intro _) | refine wN ?_ | ((with_reducible show evIs _ (_ :: _) _ _); first | refine wQ ?_ | refine wF ?_ | refine wG ?_ | refine wT ?_ | refine wM ?_ | refine wS ?_ | refine wP ?_ | refine wJ ?_ | refine wX ?_ | refine wY ?_ | refine wZ ?_))
  clear hF
  repeat refine evDone ?_
  try (show AW _ _ _ _ _)
  have hF := And.intro (hma) (And.intro (hcs) (And.intro (hss) (And.intro (hI) (hJ))))
  refine wC (hA := h25r) ?_
  clear hF
  have hF := And.intro (hI) (hJ)
  repeat (first | refine wD1 ?_ | refine wD2 ?_ | refine wE1 ?_ | refine wE2 ?_ | (refine wE3 ?_; intro _) | (refine wE4 ?_; intro _) | refine wN ?_ | ((with_reducible show evIs _ (_ :: _) _ _); first | refine wQ ?_ | refine wF ?_ | refine wG ?_ | refine wT ?_ | refine wM ?_ | refine wS ?_ | refine wP ?_ | refine wJ ?_ | refine wX ?_ | refine wY ?_ | refine wZ ?_))
  clear hF
  repeat refine evDone ?_
  try (show AW _ _ _ _ _)
  have hF := And.intro (hma) (And.intro (hcs) (And.intro (hI) (hJ)))
  refine wC (hA := h27b) ?_
  clear hF
  have hF := And.intro (hI) (hJ)
  repeat (first | refine wD1 ?_ | refine wD2 ?_ | refine wE1 ?_ | refine wE2 ?_ | (refine wE3 ?_; intro _) | (refine wE4 ?_; intro _) | refine wN ?_ | ((with_reducible show evIs _ (_ :: _) _ _); first | refine wQ ?_ | refine wF ?_ | refine wG ?_ | refine wT ?_ | refine wM ?_ | refine wS ?_ | refine wP ?_ | refine wJ ?_ | refine wX ?_ | refine wY ?_ | refine wZ ?_))
  clear hF
  repeat refine evDone ?_
  try (show AW _ _ _ _ _)
  have hF := And.intro (hI) (hJ)
  refine wL (hA := h13d) ?_
  clear hF
  rintro _ m6 _ ⟨rg, hr7, hr8, rfl, rfl⟩
  have hF := And.intro (hI) (hJ)
  repeat (first | refine wD1 ?_ | refine wD2 ?_ | refine wE1 ?_ | refine wE2 ?_ | (refine wE3 ?_; intro _) | (refine wE4 ?_; intro _) | refine wN ?_ | ((with_reducible show evIs _ (_ :: _) _ _); first | refine wQ ?_ | refine wF ?_ | refine wG ?_ | refine wT ?_ | refine wM ?_ | refine wS ?_ | refine wP ?_ | refine wJ ?_ | refine wX ?_ | refine wY ?_ | refine wZ ?_))
  clear hF
  repeat refine evDone ?_
  try (show AW _ _ _ _ _)
  have hF := True.intro
  refine wC (hA := hw) ?_
  clear hF
  have hF := And.intro (hI) (hJ)
  repeat (first | refine wD1 ?_ | refine wD2 ?_ | refine wE1 ?_ | refine wE2 ?_ | (refine wE3 ?_; intro _) | (refine wE4 ?_; intro _) | refine wN ?_ | ((with_reducible show evIs _ (_ :: _) _ _); first | refine wQ ?_ | refine wF ?_ | refine wG ?_ | refine wT ?_ | refine wM ?_ | refine wS ?_ | refine wP ?_ | refine wJ ?_ | refine wX ?_ | refine wY ?_ | refine wZ ?_))
  clear hF
  repeat refine evDone ?_
  try (show AW _ _ _ _ _)
  refine AW.ret (retI rfl ?_)
  simp [a6_res, resOk, resP, resV, ARes.op, R2s, R2, R1s, R1, closeOk, closeV]
end Go.Proofs.Ytljahaeachdjmaa
