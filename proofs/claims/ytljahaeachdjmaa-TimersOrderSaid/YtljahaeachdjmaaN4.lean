/- Chapter 37, thirty-sixth part: the law of Order. -/
import Derived.Test.YtljahaeachdjmaaT9
import Derived.Test.YtljahaeachdjmaaS2

set_option linter.unusedSimpArgs false
set_option linter.unusedVariables false
set_option maxHeartbeats 8000000
namespace Go.Proofs.Ytljahaeachdjmaa
open Go Go.Amb Go.IntWalk

theorem f5 (l : List Item) (pm : List Int) (hpm : ∀ p ∈ pm, 0 ≤ p ∧ p ≤ 255) : ACall Try.prog 5 [items l, .sl .fro (pm.map (AV.int .u8))] (· = .bool true) := by
  have hw := works
  simp only [items]
  refine a5_of (by simp) ?_
  repeat refine AW.seq ?_
  refine AW.reg ?_
  have hF := True.intro
  repeat (first | refine wD1 ?_ | refine wD2 ?_ | refine wE1 ?_ | refine wE2 ?_ | (refine wE3 ?_; intro _) | (refine wE4 ?_; intro _) | refine wN ?_ | ((with_reducible show evIs _ (_ :: _) _ _); first | refine wQ ?_ | refine wF ?_ | refine wG ?_ | refine wT ?_ | refine wM ?_ | refine wS ?_ | refine wP ?_ | refine wJ ?_ | refine wX ?_ | refine wY ?_ | refine wZ ?_))
  clear hF
  repeat refine evDone ?_
  try (show AW _ _ _ _ _)
  repeat refine AW.seq ?_
  refine AW.reg ?_
  by_cases h60 : (60 : Int) < l.length
  · have hF := h60
    repeat (first | refine wD1 ?_ | refine wD2 ?_ | refine wE1 ?_ | refine wE2 ?_ | (refine wE3 ?_; intro _) | (refine wE4 ?_; intro _) | refine wN ?_ | ((with_reducible show evIs _ (_ :: _) _ _); first | refine wQ ?_ | refine wF ?_ | refine wG ?_ | refine wT ?_ | refine wM ?_ | refine wS ?_ | refine wP ?_ | refine wJ ?_ | refine wX ?_ | refine wY ?_ | refine wZ ?_))
    clear hF
    repeat refine evDone ?_
    try (show AW _ _ _ _ _)
    repeat refine AW.seq ?_
    refine AW.condT (by simp []) (by simp []) ?_
    repeat refine AW.seq ?_
    refine AW.reg ?_
    have hF := True.intro
    repeat (first | refine wD1 ?_ | refine wD2 ?_ | refine wE1 ?_ | refine wE2 ?_ | (refine wE3 ?_; intro _) | (refine wE4 ?_; intro _) | refine wN ?_ | ((with_reducible show evIs _ (_ :: _) _ _); first | refine wQ ?_ | refine wF ?_ | refine wG ?_ | refine wT ?_ | refine wM ?_ | refine wS ?_ | refine wP ?_ | refine wJ ?_ | refine wX ?_ | refine wY ?_ | refine wZ ?_))
    clear hF
    repeat refine evDone ?_
    try (show AW _ _ _ _ _)
    have hF := True.intro
    refine wC (hA := hw) ?_
    clear hF
    have hF := True.intro
    repeat (first | refine wD1 ?_ | refine wD2 ?_ | refine wE1 ?_ | refine wE2 ?_ | (refine wE3 ?_; intro _) | (refine wE4 ?_; intro _) | refine wN ?_ | ((with_reducible show evIs _ (_ :: _) _ _); first | refine wQ ?_ | refine wF ?_ | refine wG ?_ | refine wT ?_ | refine wM ?_ | refine wS ?_ | refine wP ?_ | refine wJ ?_ | refine wX ?_ | refine wY ?_ | refine wZ ?_))
    clear hF
    repeat refine evDone ?_
    try (show AW _ _ _ _ _)
    refine AW.ret (retI rfl ?_)
    simp [a5_res, resOk, resP, resV, ARes.op, R2s, R2, R1s, R1, closeOk, closeV]
  have hlen : l.length ≤ 60 := by omega
  have h8 := f8 l (by omega)
  simp only [items] at h8
  have hF := h60
  repeat (first | refine wD1 ?_ | refine wD2 ?_ | refine wE1 ?_ | refine wE2 ?_ | (refine wE3 ?_; intro _) | (refine wE4 ?_; intro _) | refine wN ?_ | ((with_reducible show evIs _ (_ :: _) _ _); first | refine wQ ?_ | refine wF ?_ | refine wG ?_ | refine wT ?_ | refine wM ?_ | refine wS ?_ | refine wP ?_ | refine wJ ?_ | refine wX ?_ | refine wY ?_ | refine wZ ?_))
  clear hF
  repeat refine evDone ?_
  try (show AW _ _ _ _ _)
  have hF := True.intro
  refine wB (hA := h8) ?_
  clear hF
  intro b hb
  cases b with
  | false =>
    have hF := True.intro
    repeat (first | refine wD1 ?_ | refine wD2 ?_ | refine wE1 ?_ | refine wE2 ?_ | (refine wE3 ?_; intro _) | (refine wE4 ?_; intro _) | refine wN ?_ | ((with_reducible show evIs _ (_ :: _) _ _); first | refine wQ ?_ | refine wF ?_ | refine wG ?_ | refine wT ?_ | refine wM ?_ | refine wS ?_ | refine wP ?_ | refine wJ ?_ | refine wX ?_ | refine wY ?_ | refine wZ ?_))
    clear hF
    repeat refine evDone ?_
    try (show AW _ _ _ _ _)
    repeat refine AW.seq ?_
    refine AW.condT (by simp []) (by simp []) ?_
    repeat refine AW.seq ?_
    refine AW.reg ?_
    have hF := True.intro
    repeat (first | refine wD1 ?_ | refine wD2 ?_ | refine wE1 ?_ | refine wE2 ?_ | (refine wE3 ?_; intro _) | (refine wE4 ?_; intro _) | refine wN ?_ | ((with_reducible show evIs _ (_ :: _) _ _); first | refine wQ ?_ | refine wF ?_ | refine wG ?_ | refine wT ?_ | refine wM ?_ | refine wS ?_ | refine wP ?_ | refine wJ ?_ | refine wX ?_ | refine wY ?_ | refine wZ ?_))
    clear hF
    repeat refine evDone ?_
    try (show AW _ _ _ _ _)
    have hF := True.intro
    refine wC (hA := hw) ?_
    clear hF
    have hF := True.intro
    repeat (first | refine wD1 ?_ | refine wD2 ?_ | refine wE1 ?_ | refine wE2 ?_ | (refine wE3 ?_; intro _) | (refine wE4 ?_; intro _) | refine wN ?_ | ((with_reducible show evIs _ (_ :: _) _ _); first | refine wQ ?_ | refine wF ?_ | refine wG ?_ | refine wT ?_ | refine wM ?_ | refine wS ?_ | refine wP ?_ | refine wJ ?_ | refine wX ?_ | refine wY ?_ | refine wZ ?_))
    clear hF
    repeat refine evDone ?_
    try (show AW _ _ _ _ _)
    refine AW.ret (retI rfl ?_)
    simp [a5_res, resOk, resP, resV, ARes.op, R2s, R2, R1s, R1, closeOk, closeV]
  | true =>
  have hd := hb rfl
  by_cases hpl : pm.length < l.length
  · have hpl' : (pm.length : Int) < l.length := by omega
    have hF := And.intro (hpl) (hpl')
    repeat (first | refine wD1 ?_ | refine wD2 ?_ | refine wE1 ?_ | refine wE2 ?_ | (refine wE3 ?_; intro _) | (refine wE4 ?_; intro _) | refine wN ?_ | ((with_reducible show evIs _ (_ :: _) _ _); first | refine wQ ?_ | refine wF ?_ | refine wG ?_ | refine wT ?_ | refine wM ?_ | refine wS ?_ | refine wP ?_ | refine wJ ?_ | refine wX ?_ | refine wY ?_ | refine wZ ?_))
    clear hF
    repeat refine evDone ?_
    try (show AW _ _ _ _ _)
    repeat refine AW.seq ?_
    refine AW.condT (by simp [hpl']) (by simp [hpl']) ?_
    repeat refine AW.seq ?_
    refine AW.reg ?_
    have hF := True.intro
    repeat (first | refine wD1 ?_ | refine wD2 ?_ | refine wE1 ?_ | refine wE2 ?_ | (refine wE3 ?_; intro _) | (refine wE4 ?_; intro _) | refine wN ?_ | ((with_reducible show evIs _ (_ :: _) _ _); first | refine wQ ?_ | refine wF ?_ | refine wG ?_ | refine wT ?_ | refine wM ?_ | refine wS ?_ | refine wP ?_ | refine wJ ?_ | refine wX ?_ | refine wY ?_ | refine wZ ?_))
    clear hF
    repeat refine evDone ?_
    try (show AW _ _ _ _ _)
    have hF := True.intro
    refine wC (hA := hw) ?_
    clear hF
    have hF := True.intro
    repeat (first | refine wD1 ?_ | refine wD2 ?_ | refine wE1 ?_ | refine wE2 ?_ | (refine wE3 ?_; intro _) | (refine wE4 ?_; intro _) | refine wN ?_ | ((with_reducible show evIs _ (_ :: _) _ _); first | refine wQ ?_ | refine wF ?_ | refine wG ?_ | refine wT ?_ | refine wM ?_ | refine wS ?_ | refine wP ?_ | refine wJ ?_ | refine wX ?_ | refine wY ?_ | refine wZ ?_))
    clear hF
    repeat refine evDone ?_
    try (show AW _ _ _ _ _)
    refine AW.ret (retI rfl ?_)
    simp [a5_res, resOk, resP, resV, ARes.op, R2s, R2, R1s, R1, closeOk, closeV]
  have hpl' : ¬ (pm.length : Int) < l.length := by omega
  have hF := And.intro (hpl) (hpl')
  repeat (first | refine wD1 ?_ | refine wD2 ?_ | refine wE1 ?_ | refine wE2 ?_ | (refine wE3 ?_; intro _) | (refine wE4 ?_; intro _) | refine wN ?_ | ((with_reducible show evIs _ (_ :: _) _ _); first | refine wQ ?_ | refine wF ?_ | refine wG ?_ | refine wT ?_ | refine wM ?_ | refine wS ?_ | refine wP ?_ | refine wJ ?_ | refine wX ?_ | refine wY ?_ | refine wZ ?_))
  clear hF
  repeat refine evDone ?_
  try (show AW _ _ _ _ _)
  repeat refine AW.seq ?_
  refine AW.condF (by simp [hpl']) (by simp [hpl']) ?_
  refine AW.skip ?_
  show AW _ _ _ _ _
  have hma : (∀ (fh fq : Nat → Nat → Nat → AV) (cs : List AV), mapA fh fq (.agg cs) = .agg (cs.map (mapA fh fq))) ∧ (∀ (fh fq : Nat → Nat → Nat → AV) (r o n : Nat), mapA fh fq (.hdr r o n) = fh r o n) ∧ (∀ (fh fq : Nat → Nat → Nat → AV) (b : Bool), mapA fh fq (.bool b) = .bool b) ∧ (∀ (fh fq : Nat → Nat → Nat → AV) (n : Int), mapA fh fq (.int .i64 n) = .int .i64 n) := by
    refine ⟨?_, ?_, ?_, ?_⟩ <;> intros <;> simp [mapA, mapAs_eq]
  have hby : l.length * 16 ≤ 140737488355328 ∧ l.length ≤ 9223372036854775807 := ⟨by omega, by omega⟩
  have hcc : ∀ v ∈ l.map Item.av, (cellsOf v).length = 2 := fun v hv => by obtain ⟨y, _, rfl⟩ := List.mem_map.1 hv; simp
  repeat refine AW.seq ?_
  refine AW.reg ?_
  have hF := And.intro (hby) (eq_true hcc)
  repeat (first | refine wD1 ?_ | refine wD2 ?_ | refine wE1 ?_ | refine wE2 ?_ | (refine wE3 ?_; intro _) | (refine wE4 ?_; intro _) | refine wN ?_ | ((with_reducible show evIs _ (_ :: _) _ _); first | refine wQ ?_ | refine wF ?_ | refine wG ?_ | refine wT ?_ | refine wM ?_ | refine wS ?_ | refine wP ?_ | refine wJ ?_ | refine wX ?_ | refine wY ?_ | refine wZ ?_))
  clear hF
  repeat refine evDone ?_
  try (show AW _ _ _ _ _)
  repeat refine AW.seq ?_
  refine AW.reg ?_
  have hF := hby
  repeat (first | refine wD1 ?_ | refine wD2 ?_ | refine wE1 ?_ | refine wE2 ?_ | (refine wE3 ?_; intro _) | (refine wE4 ?_; intro _) | refine wN ?_ | ((with_reducible show evIs _ (_ :: _) _ _); first | refine wQ ?_ | refine wF ?_ | refine wG ?_ | refine wT ?_ | refine wM ?_ | refine wS ?_ | refine wP ?_ | refine wJ ?_ | refine wX ?_ | refine wY ?_ | refine wZ ?_))
  clear hF
  repeat refine evDone ?_
  try (show AW _ _ _ _ _)
  refine AW.endE (fun g : List Item × Nat => mkS [(0, .sl .fro (l.map Item.av)), (1, .sl .fro (pm.map (AV.int .u8))), (5, .hdr 20 0 l.length)] [(20, ⟨2, false, g.1.map Item.av⟩)] g.2) (fun g => g.1.Perm l ∧ 100 ≤ g.2) ?_ ?_
  · refine AW.block ?_
    refine AW.loop (fun g : List Item × Nat × Nat => g.1.Perm l ∧ g.2.1 ≤ l.length ∧ 100 ≤ g.2.2) (fun g => mkS [(0, .sl .fro (l.map Item.av)), (1, .sl .fro (pm.map (AV.int .u8))), (5, .hdr 20 0 l.length), (34, .int .i64 l.length), (35, .int .i64 g.2.1)] [(20, ⟨2, false, g.1.map Item.av⟩)] g.2.2) (fun g => l.length - g.2.1) (l, 0, 100) ⟨List.Perm.refl _, by simp, by simp⟩ ?_ ?_
    · refine Fit.mk _ _ _ (by simp [hby, conv2, newEmp, convs_refl, convs, conv]) (by simp [hby, heapFit, newEmp, conv2s, conv2, convs_refl, convs, conv]) (by intro q hq; first | (simp at hq; done) | (simp at hq; omega) | (simp at hq; simp; omega))
    rintro ⟨m, i, n⟩ ⟨hp, hi, hn⟩
    dsimp only at hp hi hn ⊢
    have hm := hp.length_eq
    have hD : 20 < n ∧ (∀ q, 20 < n + q) ∧ (∀ q, (20 = n + q) = False) ∧ (∀ q, (n + q = 20) = False) ∧ (∀ q, (n + q < n) = False) := ⟨by omega, fun q => by omega, fun q => eq_false (by omega), fun q => eq_false (by omega), fun q => eq_false (by omega)⟩
    repeat refine AW.seq ?_
    refine AW.reg ?_
    by_cases hlt : i < l.length
    · obtain ⟨p, hpx⟩ : ∃ p, pm[i]? = some p := ⟨_, List.getElem?_eq_getElem (by omega)⟩
      have hep := elem_map (f := AV.int .u8) hpx
      have hpr := hpm p (List.mem_of_getElem? hpx)
      obtain ⟨pn, rfl⟩ : ∃ pn : Nat, p = pn := ⟨p.toNat, by omega⟩
      have hip : i < pm.length := by omega
      have hip' : (i : Int) < pm.length := by omega
      obtain ⟨k, hk⟩ : ∃ k, k = pn % l.length := ⟨_, rfl⟩
      have hkl : k < l.length := by rw [hk]; exact Nat.mod_lt _ (by omega)
      have hkt : (pn : Int).tmod l.length = (k : Int) := by rw [hk]; rfl
      have hwp : IntKind.i64.wrap (pn : Int) = pn := i64_in _ ⟨by omega, by omega⟩
      have hl0 : ¬ (l.length : Int) = 0 := by omega
      have hl1 : ¬ l = [] := by intro e; rw [e] at hlt; simp at hlt
      have hia : (0 : Int) ≤ i := by omega
      have hib : (i : Int) < l.length := by omega
      have hic : i < l.length := by omega
      have hie := it_av (xs := m) (i := i) (by omega)
      have hka : (0 : Int) ≤ k := by omega
      have hkb : (k : Int) < l.length := by omega
      have hkc : k < l.length := by omega
      have hke := it_av (xs := m) (i := k) (by omega)
      have hse := it_av (xs := m.set i (it m k)) (i := k) (by simp; omega)
      rw [← set_av] at hse
      have hF := And.intro (hlt) (hD)
      repeat (first | refine wD1 ?_ | refine wD2 ?_ | refine wE1 ?_ | refine wE2 ?_ | (refine wE3 ?_; intro _) | (refine wE4 ?_; intro _) | refine wN ?_ | ((with_reducible show evIs _ (_ :: _) _ _); first | refine wQ ?_ | refine wF ?_ | refine wG ?_ | refine wT ?_ | refine wM ?_ | refine wS ?_ | refine wP ?_ | refine wJ ?_ | refine wX ?_ | refine wY ?_ | refine wZ ?_))
      clear hF
      repeat refine evDone ?_
      try (show AW _ _ _ _ _)
      repeat refine AW.seq ?_
      refine AW.condT (by simp []) (by simp []) ?_
      refine AW.skip ?_
      show AW _ _ _ _ _
      refine AW.seq (AW.block ?_)
      repeat refine AW.seq ?_
      refine AW.reg ?_
      have hF := hD
      repeat (first | refine wD1 ?_ | refine wD2 ?_ | refine wE1 ?_ | refine wE2 ?_ | (refine wE3 ?_; intro _) | (refine wE4 ?_; intro _) | refine wN ?_ | ((with_reducible show evIs _ (_ :: _) _ _); first | refine wQ ?_ | refine wF ?_ | refine wG ?_ | refine wT ?_ | refine wM ?_ | refine wS ?_ | refine wP ?_ | refine wJ ?_ | refine wX ?_ | refine wY ?_ | refine wZ ?_))
      clear hF
      repeat refine evDone ?_
      try (show AW _ _ _ _ _)
      repeat refine AW.seq ?_
      refine AW.reg ?_
      have hF := And.intro (hip) (And.intro (hip') (And.intro (hia) (And.intro (hep) (And.intro (hwp) (And.intro (hkt) (And.intro (hl0) (And.intro (hl1) (And.intro (hm) (hD)))))))))
      repeat (first | refine wD1 ?_ | refine wD2 ?_ | refine wE1 ?_ | refine wE2 ?_ | (refine wE3 ?_; intro _) | (refine wE4 ?_; intro _) | refine wN ?_ | ((with_reducible show evIs _ (_ :: _) _ _); first | refine wQ ?_ | refine wF ?_ | refine wG ?_ | refine wT ?_ | refine wM ?_ | refine wS ?_ | refine wP ?_ | refine wJ ?_ | refine wX ?_ | refine wY ?_ | refine wZ ?_))
      clear hF
      repeat refine evDone ?_
      try (show AW _ _ _ _ _)
      repeat refine AW.seq ?_
      refine AW.reg ?_
      have hF := And.intro (hia) (And.intro (hib) (And.intro (hic) (And.intro (hie) (And.intro (hka) (And.intro (hkb) (And.intro (hkc) (And.intro (hke) (And.intro (hm) (hD)))))))))
      repeat (first | refine wD1 ?_ | refine wD2 ?_ | refine wE1 ?_ | refine wE2 ?_ | (refine wE3 ?_; intro _) | (refine wE4 ?_; intro _) | refine wN ?_ | ((with_reducible show evIs _ (_ :: _) _ _); first | refine wQ ?_ | refine wF ?_ | refine wG ?_ | refine wT ?_ | refine wM ?_ | refine wS ?_ | refine wP ?_ | refine wJ ?_ | refine wX ?_ | refine wY ?_ | refine wZ ?_))
      clear hF
      repeat refine evDone ?_
      try (show AW _ _ _ _ _)
      repeat refine AW.seq ?_
      refine AW.reg ?_
      have hF := And.intro (hia) (And.intro (hib) (And.intro (hic) (And.intro (hie) (And.intro (hka) (And.intro (hkb) (And.intro (hkc) (And.intro (hke) (And.intro (hm) (hD)))))))))
      repeat (first | refine wD1 ?_ | refine wD2 ?_ | refine wE1 ?_ | refine wE2 ?_ | (refine wE3 ?_; intro _) | (refine wE4 ?_; intro _) | refine wN ?_ | ((with_reducible show evIs _ (_ :: _) _ _); first | refine wQ ?_ | refine wF ?_ | refine wG ?_ | refine wT ?_ | refine wM ?_ | refine wS ?_ | refine wP ?_ | refine wJ ?_ | refine wX ?_ | refine wY ?_ | refine wZ ?_))
      clear hF
      repeat refine evDone ?_
      try (show AW _ _ _ _ _)
      repeat refine AW.seq ?_
      refine AW.reg ?_
      have hF := And.intro (hia) (And.intro (hib) (And.intro (hic) (And.intro (hie) (And.intro (hka) (And.intro (hkb) (And.intro (hkc) (And.intro (hke) (And.intro (hse) (And.intro (hm) (hD))))))))))
      repeat (first | refine wD1 ?_ | refine wD2 ?_ | refine wE1 ?_ | refine wE2 ?_ | (refine wE3 ?_; intro _) | (refine wE4 ?_; intro _) | refine wN ?_ | ((with_reducible show evIs _ (_ :: _) _ _); first | refine wQ ?_ | refine wF ?_ | refine wG ?_ | refine wT ?_ | refine wM ?_ | refine wS ?_ | refine wP ?_ | refine wJ ?_ | refine wX ?_ | refine wY ?_ | refine wZ ?_))
      clear hF
      repeat refine evDone ?_
      try (show AW _ _ _ _ _)
      show AW _ _ _ _ _
      refine AW.reg ?_
      have hw1 : IntKind.i64.wrap ((i : Int) + 1) = (i : Int) + 1 := i64_in _ ⟨by omega, by omega⟩
      have hF := And.intro (hw1) (hD)
      repeat (first | refine wD1 ?_ | refine wD2 ?_ | refine wE1 ?_ | refine wE2 ?_ | (refine wE3 ?_; intro _) | (refine wE4 ?_; intro _) | refine wN ?_ | ((with_reducible show evIs _ (_ :: _) _ _); first | refine wQ ?_ | refine wF ?_ | refine wG ?_ | refine wT ?_ | refine wM ?_ | refine wS ?_ | refine wP ?_ | refine wJ ?_ | refine wX ?_ | refine wY ?_ | refine wZ ?_))
      clear hF
      repeat refine evDone ?_
      try (show AW _ _ _ _ _)
      refine ⟨(swap m i k, i + 1, n + 60), ⟨(swap_perm (by omega) (by omega)).trans hp, by dsimp only; omega, by dsimp only; omega⟩, by dsimp only; omega, ?_⟩
      have hf : 20 < n + 60 := by omega
      refine Fit.mk _ _ _ (by simp [swap, Item.av, hw1, hD, hf, conv2, newEmp, convs_refl, convs, conv]) (by simp [swap, Item.av, hw1, hD, hf, heapFit, newEmp, conv2s, conv2, convs_refl, convs, conv]) (by intro q hq; first | (simp at hq; done) | (simp at hq; omega) | (simp at hq; simp; omega))
    · have hlt2 : ¬ (i : Int) < l.length := by omega
      have hF := And.intro (hlt) (hlt2)
      repeat (first | refine wD1 ?_ | refine wD2 ?_ | refine wE1 ?_ | refine wE2 ?_ | (refine wE3 ?_; intro _) | (refine wE4 ?_; intro _) | refine wN ?_ | ((with_reducible show evIs _ (_ :: _) _ _); first | refine wQ ?_ | refine wF ?_ | refine wG ?_ | refine wT ?_ | refine wM ?_ | refine wS ?_ | refine wP ?_ | refine wJ ?_ | refine wX ?_ | refine wY ?_ | refine wZ ?_))
      clear hF
      repeat refine evDone ?_
      try (show AW _ _ _ _ _)
      repeat refine AW.seq ?_
      refine AW.condF (by simp []) (by simp []) ?_
      refine AW.exit ?_
      refine ⟨rfl, (m, n), ⟨hp, hn⟩, ?_⟩
      refine Fit.mk _ _ _ (by simp [hD, conv2, newEmp, convs_refl, convs, conv]) (by simp [hD, heapFit, newEmp, conv2s, conv2, convs_refl, convs, conv]) (by intro q hq; first | (simp at hq; done) | (simp at hq; omega) | (simp at hq; simp; omega))
  rintro ⟨m, n⟩ ⟨hp, hn⟩
  dsimp only at hp hn ⊢
  show AW _ _ _ _ _
  rw [mkS_eq]
  have hm := hp.length_eq
  have htm : (m.map Item.av).take l.length = m.map Item.av ∧ (m.map Item.av).map clC = m.map Item.av := ⟨List.take_of_length_le (by simp; omega), items_cl m⟩
  refine AW.fit (Fit.freeze (d := 5) (r := 20) (off := 0) (len := l.length) (b := ⟨2, false, m.map Item.av⟩) (by simp) (by simp) rfl (by simp [hm])) ?_
  obtain ⟨N1, hN1⟩ : ∃ N1, N1 = n + 1000 := ⟨_, rfl⟩
  obtain ⟨B1, hB1⟩ : ∃ B1, B1 = N1 + 2 := ⟨_, rfl⟩
  obtain ⟨H1, hH1⟩ : ∃ H1, H1 = N1 + 500 := ⟨_, rfl⟩
  obtain ⟨B2, hB2⟩ : ∃ B2, B2 = N1 + 2000 + 2 := ⟨_, rfl⟩
  obtain ⟨H2, hH2⟩ : ∃ H2, H2 = N1 + 2000 + 500 := ⟨_, rfl⟩
  have h10 := f10 N1
  have h10b := f10 (N1 + 2000)
  simp only [Qs, box, List.map_nil, List.length_nil] at h10 h10b
  rw [← hB1, ← hH1] at h10
  rw [← hB2, ← hH2] at h10b
  have hA : (B1 = H1) = False ∧ (B1 = B2) = False ∧ (B1 = H2) = False ∧ (H1 = B1) = False ∧ (H1 = B2) = False ∧ (H1 = H2) = False ∧ (B2 = B1) = False ∧ (B2 = H1) = False ∧ (B2 = H2) = False ∧ (H2 = B1) = False ∧ (H2 = H1) = False ∧ (H2 = B2) = False ∧ B1 < N1 + 5000 ∧ (∀ q, B1 < N1 + 5000 + q) ∧ (∀ q, (B1 = N1 + 5000 + q) = False) ∧ (∀ q, (N1 + 5000 + q = B1) = False) ∧ H1 < N1 + 5000 ∧ (∀ q, H1 < N1 + 5000 + q) ∧ (∀ q, (H1 = N1 + 5000 + q) = False) ∧ (∀ q, (N1 + 5000 + q = H1) = False) ∧ B2 < N1 + 5000 ∧ (∀ q, B2 < N1 + 5000 + q) ∧ (∀ q, (B2 = N1 + 5000 + q) = False) ∧ (∀ q, (N1 + 5000 + q = B2) = False) ∧ H2 < N1 + 5000 ∧ (∀ q, H2 < N1 + 5000 + q) ∧ (∀ q, (H2 = N1 + 5000 + q) = False) ∧ (∀ q, (N1 + 5000 + q = H2) = False) ∧ (∀ q, (N1 + 5000 + q < N1 + 5000) = False) := ⟨eq_false (by omega), eq_false (by omega), eq_false (by omega), eq_false (by omega), eq_false (by omega), eq_false (by omega), eq_false (by omega), eq_false (by omega), eq_false (by omega), eq_false (by omega), eq_false (by omega), eq_false (by omega), by omega, fun q => by omega, fun q => eq_false (by omega), fun q => eq_false (by omega), by omega, fun q => by omega, fun q => eq_false (by omega), fun q => eq_false (by omega), by omega, fun q => by omega, fun q => eq_false (by omega), fun q => eq_false (by omega), by omega, fun q => by omega, fun q => eq_false (by omega), fun q => eq_false (by omega), fun q => eq_false (by omega)⟩
  have hn5 : n < N1 + 5000 ∧ N1 < N1 + 2000 ∧ (∀ q, q < n → q < N1) ∧ (∀ q, q < n → q < N1 + 2000) := ⟨by omega, by omega, fun q h => by omega, fun q h => by omega⟩
  repeat refine AW.seq ?_
  refine AW.reg ?_
  have hF := And.intro (htm) (hA)
  repeat (first | refine wD1 ?_ | refine wD2 ?_ | refine wE1 ?_ | refine wE2 ?_ | (refine wE3 ?_; intro _) | (refine wE4 ?_; intro _) | refine wN ?_ | ((with_reducible show evIs _ (_ :: _) _ _); first | refine wQ ?_ | refine wF ?_ | refine wG ?_ | refine wT ?_ | refine wM ?_ | refine wS ?_ | refine wP ?_ | refine wJ ?_ | refine wX ?_ | refine wY ?_ | refine wZ ?_))
  clear hF
  repeat refine evDone ?_
  try (show AW _ _ _ _ _)
  have hF := And.intro (htm) (hA)
  refine wL (hA := h10) ?_
  clear hF
  rintro _ _ _ ⟨rfl, rfl, rfl⟩
  have hF := And.intro (htm) (hA)
  repeat (first | refine wD1 ?_ | refine wD2 ?_ | refine wE1 ?_ | refine wE2 ?_ | (refine wE3 ?_; intro _) | (refine wE4 ?_; intro _) | refine wN ?_ | ((with_reducible show evIs _ (_ :: _) _ _); first | refine wQ ?_ | refine wF ?_ | refine wG ?_ | refine wT ?_ | refine wM ?_ | refine wS ?_ | refine wP ?_ | refine wJ ?_ | refine wX ?_ | refine wY ?_ | refine wZ ?_))
  clear hF
  repeat refine evDone ?_
  try (show AW _ _ _ _ _)
  have hF := And.intro (htm) (hA)
  refine wL (hA := h10b) ?_
  clear hF
  rintro _ _ _ ⟨rfl, rfl, rfl⟩
  have hF := And.intro (htm) (hA)
  repeat (first | refine wD1 ?_ | refine wD2 ?_ | refine wE1 ?_ | refine wE2 ?_ | (refine wE3 ?_; intro _) | (refine wE4 ?_; intro _) | refine wN ?_ | ((with_reducible show evIs _ (_ :: _) _ _); first | refine wQ ?_ | refine wF ?_ | refine wG ?_ | refine wT ?_ | refine wM ?_ | refine wS ?_ | refine wP ?_ | refine wJ ?_ | refine wX ?_ | refine wY ?_ | refine wZ ?_))
  clear hF
  repeat refine evDone ?_
  try (show AW _ _ _ _ _)
  repeat refine AW.seq ?_
  refine AW.reg ?_
  have hF := And.intro (htm) (hA)
  repeat (first | refine wD1 ?_ | refine wD2 ?_ | refine wE1 ?_ | refine wE2 ?_ | (refine wE3 ?_; intro _) | (refine wE4 ?_; intro _) | refine wN ?_ | ((with_reducible show evIs _ (_ :: _) _ _); first | refine wQ ?_ | refine wF ?_ | refine wG ?_ | refine wT ?_ | refine wM ?_ | refine wS ?_ | refine wP ?_ | refine wJ ?_ | refine wX ?_ | refine wY ?_ | refine wZ ?_))
  clear hF
  repeat refine evDone ?_
  try (show AW _ _ _ _ _)
  repeat refine AW.seq ?_
  refine AW.condF (by simp []) (by simp []) ?_
  refine AW.skip ?_
  show AW _ _ _ _ _
  obtain ⟨xs, hfe⟩ : ∃ xs, fillF [] l = xs := ⟨_, rfl⟩
  obtain ⟨ys, hfm⟩ : ∃ ys, fillF [] m = ys := ⟨_, rfl⟩
  have hol := order_law hd hp
  have hos : ∀ i x y, (srt (fillF [] l))[i]? = some x → (srt (fillF [] l))[i + 1]? = some y → _ := fun i x y h1 h2 => order_step hd h1 h2
  have hfl := fill_len l
  have hgl := fill_len m
  rw [hfe] at hol hos hfl
  rw [hfm] at hol hgl
  obtain ⟨zs, hzs⟩ : ∃ zs, srt xs = zs := ⟨_, rfl⟩
  obtain ⟨m0, hm0⟩ : ∃ m0, m0 = N1 + 5000 := ⟨_, rfl⟩
  rw [hzs] at hol hos
  have hB : (B1 = H1) = False ∧ (B1 = B2) = False ∧ (B1 = H2) = False ∧ (H1 = B1) = False ∧ (H1 = B2) = False ∧ (H1 = H2) = False ∧ (B2 = B1) = False ∧ (B2 = H1) = False ∧ (B2 = H2) = False ∧ (H2 = B1) = False ∧ (H2 = H1) = False ∧ (H2 = B2) = False ∧ B1 < m0 ∧ (∀ q, B1 < m0 + q) ∧ (∀ q, (B1 = m0 + q) = False) ∧ (∀ q, (m0 + q = B1) = False) ∧ H1 < m0 ∧ (∀ q, H1 < m0 + q) ∧ (∀ q, (H1 = m0 + q) = False) ∧ (∀ q, (m0 + q = H1) = False) ∧ B2 < m0 ∧ (∀ q, B2 < m0 + q) ∧ (∀ q, (B2 = m0 + q) = False) ∧ (∀ q, (m0 + q = B2) = False) ∧ H2 < m0 ∧ (∀ q, H2 < m0 + q) ∧ (∀ q, (H2 = m0 + q) = False) ∧ (∀ q, (m0 + q = H2) = False) ∧ (∀ q, (m0 + q < m0) = False) := ⟨eq_false (by omega), eq_false (by omega), eq_false (by omega), eq_false (by omega), eq_false (by omega), eq_false (by omega), eq_false (by omega), eq_false (by omega), eq_false (by omega), eq_false (by omega), eq_false (by omega), eq_false (by omega), by omega, fun q => by omega, fun q => eq_false (by omega), fun q => eq_false (by omega), by omega, fun q => by omega, fun q => eq_false (by omega), fun q => eq_false (by omega), by omega, fun q => by omega, fun q => eq_false (by omega), fun q => eq_false (by omega), by omega, fun q => by omega, fun q => eq_false (by omega), fun q => eq_false (by omega), fun q => eq_false (by omega)⟩
  refine AW.fit (st' := mkS [(0, .sl .fro (l.map Item.av)), (1, .sl .fro (pm.map (AV.int .u8))), (5, .sl .fro (m.map Item.av)), (9, .ptr B1 0 0), (10, .ptr B2 0 0)] [(B1, ⟨2, true, [.agg [.hdr H1 0 0, .bool true]]⟩), (H1, ⟨2, false, []⟩), (B2, ⟨2, true, [.agg [.hdr H2 0 0, .bool true]]⟩), (H2, ⟨2, false, []⟩)] (m0)) ?_ ?_
  · refine Fit.mk _ _ _ (by simp [hA, hB, htm, conv2, newEmp, convs_refl, convs, conv]) (by simp [hA, hB, htm, heapFit, newEmp, conv2s, conv2, convs_refl, convs, conv]) (by intro q hq; first | (simp at hq; done) | (simp at hq; omega) | (simp at hq; simp; omega))
  rw [mkS_eq]
  have h11 := f11 m0 B1 H1 (by omega) (by omega) (by omega) [] l (by simp; omega)
  rw [hfe] at h11
  simp only [Qs, box, items, List.map_nil, List.length_nil] at h11
  repeat refine AW.seq ?_
  refine AW.reg ?_
  have hF := hB
  repeat (first | refine wD1 ?_ | refine wD2 ?_ | refine wE1 ?_ | refine wE2 ?_ | (refine wE3 ?_; intro _) | (refine wE4 ?_; intro _) | refine wN ?_ | ((with_reducible show evIs _ (_ :: _) _ _); first | refine wQ ?_ | refine wF ?_ | refine wG ?_ | refine wT ?_ | refine wM ?_ | refine wS ?_ | refine wP ?_ | refine wJ ?_ | refine wX ?_ | refine wY ?_ | refine wZ ?_))
  clear hF
  repeat refine evDone ?_
  try (show AW _ _ _ _ _)
  have hF := hB
  refine wL (hA := h11) ?_
  clear hF
  rintro _ na _ ⟨Ha, hHa, hHa1, hHa2, rfl, rfl⟩
  obtain ⟨m1, hm1⟩ : ∃ m1, m1 = m0 + na := ⟨_, rfl⟩
  have hC : (B1 = Ha) = False ∧ (B1 = B2) = False ∧ (B1 = H2) = False ∧ (Ha = B1) = False ∧ (Ha = B2) = False ∧ (Ha = H2) = False ∧ (B2 = B1) = False ∧ (B2 = Ha) = False ∧ (B2 = H2) = False ∧ (H2 = B1) = False ∧ (H2 = Ha) = False ∧ (H2 = B2) = False ∧ B1 < m1 ∧ (∀ q, B1 < m1 + q) ∧ (∀ q, (B1 = m1 + q) = False) ∧ (∀ q, (m1 + q = B1) = False) ∧ Ha < m1 ∧ (∀ q, Ha < m1 + q) ∧ (∀ q, (Ha = m1 + q) = False) ∧ (∀ q, (m1 + q = Ha) = False) ∧ B2 < m1 ∧ (∀ q, B2 < m1 + q) ∧ (∀ q, (B2 = m1 + q) = False) ∧ (∀ q, (m1 + q = B2) = False) ∧ H2 < m1 ∧ (∀ q, H2 < m1 + q) ∧ (∀ q, (H2 = m1 + q) = False) ∧ (∀ q, (m1 + q = H2) = False) ∧ (∀ q, (m1 + q < m1) = False) := ⟨eq_false (by omega), eq_false (by omega), eq_false (by omega), eq_false (by omega), eq_false (by omega), eq_false (by omega), eq_false (by omega), eq_false (by omega), eq_false (by omega), eq_false (by omega), eq_false (by omega), eq_false (by omega), by omega, fun q => by omega, fun q => eq_false (by omega), fun q => eq_false (by omega), by omega, fun q => by omega, fun q => eq_false (by omega), fun q => eq_false (by omega), by omega, fun q => by omega, fun q => eq_false (by omega), fun q => eq_false (by omega), by omega, fun q => by omega, fun q => eq_false (by omega), fun q => eq_false (by omega), fun q => eq_false (by omega)⟩
  have hF := And.intro (hB) (hC)
  repeat (first | refine wD1 ?_ | refine wD2 ?_ | refine wE1 ?_ | refine wE2 ?_ | (refine wE3 ?_; intro _) | (refine wE4 ?_; intro _) | refine wN ?_ | ((with_reducible show evIs _ (_ :: _) _ _); first | refine wQ ?_ | refine wF ?_ | refine wG ?_ | refine wT ?_ | refine wM ?_ | refine wS ?_ | refine wP ?_ | refine wJ ?_ | refine wX ?_ | refine wY ?_ | refine wZ ?_))
  clear hF
  repeat refine evDone ?_
  try (show AW _ _ _ _ _)
  refine AW.fit (st' := mkS [(0, .sl .fro (l.map Item.av)), (1, .sl .fro (pm.map (AV.int .u8))), (5, .sl .fro (m.map Item.av)), (9, .ptr B1 0 0), (10, .ptr B2 0 0)] [(B1, ⟨2, true, [.agg [.hdr Ha 0 xs.length, .bool true]]⟩), (Ha, ⟨2, false, xs.map Item.av⟩), (B2, ⟨2, true, [.agg [.hdr H2 0 0, .bool true]]⟩), (H2, ⟨2, false, []⟩)] (m1)) ?_ ?_
  · refine Fit.mk _ _ _ (by simp [hB, hC, conv2, newEmp, convs_refl, convs, conv]) (by simp [hB, hC, heapFit, newEmp, conv2s, conv2, convs_refl, convs, conv]) (by intro q hq; first | (simp at hq; done) | (simp at hq; omega) | (simp at hq; simp; omega))
  rw [mkS_eq]
  have h11b := f11 m1 B2 H2 (by omega) (by omega) (by omega) [] m (by simp; omega)
  rw [hfm] at h11b
  simp only [Qs, box, items, List.map_nil, List.length_nil] at h11b
  repeat refine AW.seq ?_
  refine AW.reg ?_
  have hF := hC
  repeat (first | refine wD1 ?_ | refine wD2 ?_ | refine wE1 ?_ | refine wE2 ?_ | (refine wE3 ?_; intro _) | (refine wE4 ?_; intro _) | refine wN ?_ | ((with_reducible show evIs _ (_ :: _) _ _); first | refine wQ ?_ | refine wF ?_ | refine wG ?_ | refine wT ?_ | refine wM ?_ | refine wS ?_ | refine wP ?_ | refine wJ ?_ | refine wX ?_ | refine wY ?_ | refine wZ ?_))
  clear hF
  repeat refine evDone ?_
  try (show AW _ _ _ _ _)
  have hF := hC
  refine wL (hA := h11b) ?_
  clear hF
  rintro _ nb _ ⟨Hb, hHb, hHb1, hHb2, rfl, rfl⟩
  obtain ⟨m2, hm2⟩ : ∃ m2, m2 = m1 + nb := ⟨_, rfl⟩
  have hE : (B1 = Ha) = False ∧ (B1 = B2) = False ∧ (B1 = Hb) = False ∧ (Ha = B1) = False ∧ (Ha = B2) = False ∧ (Ha = Hb) = False ∧ (B2 = B1) = False ∧ (B2 = Ha) = False ∧ (B2 = Hb) = False ∧ (Hb = B1) = False ∧ (Hb = Ha) = False ∧ (Hb = B2) = False ∧ B1 < m2 ∧ (∀ q, B1 < m2 + q) ∧ (∀ q, (B1 = m2 + q) = False) ∧ (∀ q, (m2 + q = B1) = False) ∧ Ha < m2 ∧ (∀ q, Ha < m2 + q) ∧ (∀ q, (Ha = m2 + q) = False) ∧ (∀ q, (m2 + q = Ha) = False) ∧ B2 < m2 ∧ (∀ q, B2 < m2 + q) ∧ (∀ q, (B2 = m2 + q) = False) ∧ (∀ q, (m2 + q = B2) = False) ∧ Hb < m2 ∧ (∀ q, Hb < m2 + q) ∧ (∀ q, (Hb = m2 + q) = False) ∧ (∀ q, (m2 + q = Hb) = False) ∧ (∀ q, (m2 + q < m2) = False) := ⟨eq_false (by omega), eq_false (by omega), eq_false (by omega), eq_false (by omega), eq_false (by omega), eq_false (by omega), eq_false (by omega), eq_false (by omega), eq_false (by omega), eq_false (by omega), eq_false (by omega), eq_false (by omega), by omega, fun q => by omega, fun q => eq_false (by omega), fun q => eq_false (by omega), by omega, fun q => by omega, fun q => eq_false (by omega), fun q => eq_false (by omega), by omega, fun q => by omega, fun q => eq_false (by omega), fun q => eq_false (by omega), by omega, fun q => by omega, fun q => eq_false (by omega), fun q => eq_false (by omega), fun q => eq_false (by omega)⟩
  have hF := And.intro (hC) (hE)
  repeat (first | refine wD1 ?_ | refine wD2 ?_ | refine wE1 ?_ | refine wE2 ?_ | (refine wE3 ?_; intro _) | (refine wE4 ?_; intro _) | refine wN ?_ | ((with_reducible show evIs _ (_ :: _) _ _); first | refine wQ ?_ | refine wF ?_ | refine wG ?_ | refine wT ?_ | refine wM ?_ | refine wS ?_ | refine wP ?_ | refine wJ ?_ | refine wX ?_ | refine wY ?_ | refine wZ ?_))
  clear hF
  repeat refine evDone ?_
  try (show AW _ _ _ _ _)
  refine AW.fit (st' := mkS [(0, .sl .fro (l.map Item.av)), (1, .sl .fro (pm.map (AV.int .u8))), (9, .ptr B1 0 0), (10, .ptr B2 0 0)] [(B1, ⟨2, true, [.agg [.hdr Ha 0 xs.length, .bool true]]⟩), (Ha, ⟨2, false, xs.map Item.av⟩), (B2, ⟨2, true, [.agg [.hdr Hb 0 ys.length, .bool true]]⟩), (Hb, ⟨2, false, ys.map Item.av⟩)] (m2)) ?_ ?_
  · refine Fit.mk _ _ _ (by simp [hC, hE, conv2, newEmp, convs_refl, convs, conv]) (by simp [hC, hE, heapFit, newEmp, conv2s, conv2, convs_refl, convs, conv]) (by intro q hq; first | (simp at hq; done) | (simp at hq; omega) | (simp at hq; simp; omega))
  rw [mkS_eq]
  have h25 := f25 xs (by omega)
  have h25b := f25 ys (by omega)
  rw [hzs] at h25
  rw [← hol.1] at h25b
  have h27 := f27 zs (by omega)
  simp only [qv, items] at h25 h25b h27
  have hss : scs (zs.map Item.av) = true := items_scs _
  have hzl := hol.2
  have hcs : (xs.map Item.av).take xs.length = xs.map Item.av ∧ (xs.map Item.av).map clC = xs.map Item.av ∧ (ys.map Item.av).take ys.length = ys.map Item.av ∧ (ys.map Item.av).map clC = ys.map Item.av ∧ (zs.map Item.av).map clC = zs.map Item.av := ⟨List.take_of_length_le (by simp), items_cl xs, List.take_of_length_le (by simp), items_cl ys, items_cl zs⟩
  repeat refine AW.seq ?_
  refine AW.reg ?_
  have hF := hE
  repeat (first | refine wD1 ?_ | refine wD2 ?_ | refine wE1 ?_ | refine wE2 ?_ | (refine wE3 ?_; intro _) | (refine wE4 ?_; intro _) | refine wN ?_ | ((with_reducible show evIs _ (_ :: _) _ _); first | refine wQ ?_ | refine wF ?_ | refine wG ?_ | refine wT ?_ | refine wM ?_ | refine wS ?_ | refine wP ?_ | refine wJ ?_ | refine wX ?_ | refine wY ?_ | refine wZ ?_))
  clear hF
  repeat refine evDone ?_
  try (show AW _ _ _ _ _)
  have hF := And.intro (hma) (And.intro (hcs) (And.intro (hss) (hE)))
  refine wC (hA := h25) ?_
  clear hF
  have hF := hE
  repeat (first | refine wD1 ?_ | refine wD2 ?_ | refine wE1 ?_ | refine wE2 ?_ | (refine wE3 ?_; intro _) | (refine wE4 ?_; intro _) | refine wN ?_ | ((with_reducible show evIs _ (_ :: _) _ _); first | refine wQ ?_ | refine wF ?_ | refine wG ?_ | refine wT ?_ | refine wM ?_ | refine wS ?_ | refine wP ?_ | refine wJ ?_ | refine wX ?_ | refine wY ?_ | refine wZ ?_))
  clear hF
  repeat refine evDone ?_
  try (show AW _ _ _ _ _)
  repeat refine AW.seq ?_
  refine AW.reg ?_
  have hF := And.intro (hzl) (hE)
  repeat (first | refine wD1 ?_ | refine wD2 ?_ | refine wE1 ?_ | refine wE2 ?_ | (refine wE3 ?_; intro _) | (refine wE4 ?_; intro _) | refine wN ?_ | ((with_reducible show evIs _ (_ :: _) _ _); first | refine wQ ?_ | refine wF ?_ | refine wG ?_ | refine wT ?_ | refine wM ?_ | refine wS ?_ | refine wP ?_ | refine wJ ?_ | refine wX ?_ | refine wY ?_ | refine wZ ?_))
  clear hF
  repeat refine evDone ?_
  try (show AW _ _ _ _ _)
  refine AW.endE (fun g : Nat => mkS [(0, .sl .fro (l.map Item.av)), (1, .sl .fro (pm.map (AV.int .u8))), (9, .ptr B1 0 0), (10, .ptr B2 0 0), (11, .sl .fro (zs.map Item.av))] [(B1, ⟨2, true, [.agg [.hdr Ha 0 xs.length, .bool true]]⟩), (Ha, ⟨2, false, xs.map Item.av⟩), (B2, ⟨2, true, [.agg [.hdr Hb 0 ys.length, .bool true]]⟩), (Hb, ⟨2, false, ys.map Item.av⟩)] g) (fun g => m2 ≤ g) ?_ ?_
  · refine AW.block ?_
    refine AW.loop (fun g : Nat × Nat => g.1 ≤ l.length ∧ m2 ≤ g.2) (fun g => mkS [(0, .sl .fro (l.map Item.av)), (1, .sl .fro (pm.map (AV.int .u8))), (9, .ptr B1 0 0), (10, .ptr B2 0 0), (11, .sl .fro (zs.map Item.av)), (78, .sl .fro (zs.map Item.av)), (79, .int .i64 l.length), (80, .int .i64 g.1)] [(B1, ⟨2, true, [.agg [.hdr Ha 0 xs.length, .bool true]]⟩), (Ha, ⟨2, false, xs.map Item.av⟩), (B2, ⟨2, true, [.agg [.hdr Hb 0 ys.length, .bool true]]⟩), (Hb, ⟨2, false, ys.map Item.av⟩)] g.2) (fun g => l.length - g.1) (0, m2) ⟨by simp, by simp⟩ ?_ ?_
    · refine Fit.mk _ _ _ (by simp [hE, conv2, newEmp, convs_refl, convs, conv]) (by simp [hE, heapFit, newEmp, conv2s, conv2, convs_refl, convs, conv]) (by intro q hq; first | (simp at hq; done) | (simp at hq; omega) | (simp at hq; simp; omega))
    rintro ⟨i, n⟩ ⟨hi, hn⟩
    dsimp only at hi hn ⊢
    have hG : (B1 = Ha) = False ∧ (B1 = B2) = False ∧ (B1 = Hb) = False ∧ (Ha = B1) = False ∧ (Ha = B2) = False ∧ (Ha = Hb) = False ∧ (B2 = B1) = False ∧ (B2 = Ha) = False ∧ (B2 = Hb) = False ∧ (Hb = B1) = False ∧ (Hb = Ha) = False ∧ (Hb = B2) = False ∧ B1 < n ∧ (∀ q, B1 < n + q) ∧ (∀ q, (B1 = n + q) = False) ∧ (∀ q, (n + q = B1) = False) ∧ Ha < n ∧ (∀ q, Ha < n + q) ∧ (∀ q, (Ha = n + q) = False) ∧ (∀ q, (n + q = Ha) = False) ∧ B2 < n ∧ (∀ q, B2 < n + q) ∧ (∀ q, (B2 = n + q) = False) ∧ (∀ q, (n + q = B2) = False) ∧ Hb < n ∧ (∀ q, Hb < n + q) ∧ (∀ q, (Hb = n + q) = False) ∧ (∀ q, (n + q = Hb) = False) ∧ (∀ q, (n + q < n) = False) := ⟨eq_false (by omega), eq_false (by omega), eq_false (by omega), eq_false (by omega), eq_false (by omega), eq_false (by omega), eq_false (by omega), eq_false (by omega), eq_false (by omega), eq_false (by omega), eq_false (by omega), eq_false (by omega), by omega, fun q => by omega, fun q => eq_false (by omega), fun q => eq_false (by omega), by omega, fun q => by omega, fun q => eq_false (by omega), fun q => eq_false (by omega), by omega, fun q => by omega, fun q => eq_false (by omega), fun q => eq_false (by omega), by omega, fun q => by omega, fun q => eq_false (by omega), fun q => eq_false (by omega), fun q => eq_false (by omega)⟩
    repeat refine AW.seq ?_
    refine AW.reg ?_
    by_cases hlt : i < l.length
    · obtain ⟨x, hx⟩ : ∃ x, zs[i]? = some x := ⟨_, List.getElem?_eq_getElem (by omega)⟩
      have he := elem_map (f := Item.av) hx
      have hzi : i < zs.length := by omega
      have hw1 : IntKind.i64.wrap ((i : Int) + 1) = (i : Int) + 1 := i64_in _ ⟨by omega, by omega⟩
      have hf : B1 < n + 100 ∧ Ha < n + 100 ∧ B2 < n + 100 ∧ Hb < n + 100 := ⟨by omega, by omega, by omega, by omega⟩
      cases i with
      | zero =>
        obtain ⟨x1, x2⟩ := x
        have hw2 : IntKind.i64.wrap 1 = 1 := i64_in _ ⟨by omega, by omega⟩
        simp only [Item.av] at he
        have hF := And.intro (hlt) (hG)
        repeat (first | refine wD1 ?_ | refine wD2 ?_ | refine wE1 ?_ | refine wE2 ?_ | (refine wE3 ?_; intro _) | (refine wE4 ?_; intro _) | refine wN ?_ | ((with_reducible show evIs _ (_ :: _) _ _); first | refine wQ ?_ | refine wF ?_ | refine wG ?_ | refine wT ?_ | refine wM ?_ | refine wS ?_ | refine wP ?_ | refine wJ ?_ | refine wX ?_ | refine wY ?_ | refine wZ ?_))
        clear hF
        repeat refine evDone ?_
        try (show AW _ _ _ _ _)
        repeat refine AW.seq ?_
        refine AW.condT (by simp []) (by simp []) ?_
        refine AW.skip ?_
        show AW _ _ _ _ _
        refine AW.seq (AW.block ?_)
        repeat refine AW.seq ?_
        refine AW.reg ?_
        have hF := And.intro (hlt) (And.intro (hzi) (And.intro (hzl) (And.intro (he) (hG))))
        repeat (first | refine wD1 ?_ | refine wD2 ?_ | refine wE1 ?_ | refine wE2 ?_ | (refine wE3 ?_; intro _) | (refine wE4 ?_; intro _) | refine wN ?_ | ((with_reducible show evIs _ (_ :: _) _ _); first | refine wQ ?_ | refine wF ?_ | refine wG ?_ | refine wT ?_ | refine wM ?_ | refine wS ?_ | refine wP ?_ | refine wJ ?_ | refine wX ?_ | refine wY ?_ | refine wZ ?_))
        clear hF
        repeat refine evDone ?_
        try (show AW _ _ _ _ _)
        repeat refine AW.seq ?_
        refine AW.draw ?_
        have hF := And.intro (hlt) (And.intro (hzi) (And.intro (hzl) (And.intro (he) (hG))))
        repeat (first | refine wD1 ?_ | refine wD2 ?_ | refine wE1 ?_ | refine wE2 ?_ | refine wE6 ?_ | refine wE7 ?_ | refine wE5 ?_ | refine wN ?_ | ((with_reducible show evIs _ (_ :: _) _ _); first | refine wQ ?_ | refine wF ?_ | refine wG ?_ | refine wT ?_ | refine wM ?_ | refine wS ?_ | refine wP ?_ | refine wJ ?_ | refine wX ?_ | refine wY ?_ | refine wZ ?_))
        clear hF
        repeat refine evDone ?_
        try (show AW _ _ _ _ _)
        repeat refine AW.seq ?_
        refine AW.condF (by simp []) (by simp []) ?_
        refine AW.skip ?_
        show AW _ _ _ _ _
        refine AW.reg ?_
        have hF := And.intro (hw1) (And.intro (hw2) (hG))
        repeat (first | refine wD1 ?_ | refine wD2 ?_ | refine wE1 ?_ | refine wE2 ?_ | (refine wE3 ?_; intro _) | (refine wE4 ?_; intro _) | refine wN ?_ | ((with_reducible show evIs _ (_ :: _) _ _); first | refine wQ ?_ | refine wF ?_ | refine wG ?_ | refine wT ?_ | refine wM ?_ | refine wS ?_ | refine wP ?_ | refine wJ ?_ | refine wX ?_ | refine wY ?_ | refine wZ ?_))
        clear hF
        repeat refine evDone ?_
        try (show AW _ _ _ _ _)
        refine ⟨(1, n + 100), ⟨by dsimp only; omega, by dsimp only; omega⟩, by dsimp only; omega, ?_⟩
        refine Fit.mk _ _ _ (by simp [hw1, hw2, hG, hf, conv2, newEmp, convs_refl, convs, conv]) (by simp [hw1, hw2, hG, hf, heapFit, newEmp, conv2s, conv2, convs_refl, convs, conv]) (by intro q hq; first | (simp at hq; done) | (simp at hq; omega) | (simp at hq; simp; omega))
      | succ j =>
        obtain ⟨y, hy⟩ : ∃ y, zs[j]? = some y := ⟨_, List.getElem?_eq_getElem (by omega)⟩
        have hey := elem_map (f := Item.av) hy
        have hst := hos j y x hy hx
        obtain ⟨x1, x2⟩ := x
        obtain ⟨y1, y2⟩ := y
        simp only [Item.av] at he hey
        dsimp only at hst
        have hwj : IntKind.i64.wrap (((j : Int) + 1) - 1) = (j : Int) := by rw [show ((j : Int) + 1) - 1 = (j : Int) by omega]; exact i64_in _ ⟨by omega, by omega⟩
        have hwj2 : IntKind.i64.wrap (j : Int) = (j : Int) := i64_in _ ⟨by omega, by omega⟩
        have hw2 : IntKind.i64.wrap ((j : Int) + 1 + 1) = (j : Int) + 1 + 1 := i64_in _ ⟨by omega, by omega⟩
        have hj1 : (0 : Int) ≤ j := by omega
        have hj2 : (0 : Int) ≤ (j : Int) + 1 := by omega
        have hj3 : (0 : Int) < (j : Int) + 1 := by omega
        have hj4 : j < l.length := by omega
        have hj5 : ((j : Int) + 1).toNat = j + 1 := by omega
        have hj6 : (j : Int) + 1 < l.length := by omega
        have hj7 : (j : Int) < l.length := by omega
        have hng : ¬ x1 < y1 := by omega
        have hF := And.intro (hlt) (And.intro (hj6) (hG))
        repeat (first | refine wD1 ?_ | refine wD2 ?_ | refine wE1 ?_ | refine wE2 ?_ | (refine wE3 ?_; intro _) | (refine wE4 ?_; intro _) | refine wN ?_ | ((with_reducible show evIs _ (_ :: _) _ _); first | refine wQ ?_ | refine wF ?_ | refine wG ?_ | refine wT ?_ | refine wM ?_ | refine wS ?_ | refine wP ?_ | refine wJ ?_ | refine wX ?_ | refine wY ?_ | refine wZ ?_))
        clear hF
        repeat refine evDone ?_
        try (show AW _ _ _ _ _)
        repeat refine AW.seq ?_
        refine AW.condT (by simp []) (by simp []) ?_
        refine AW.skip ?_
        show AW _ _ _ _ _
        refine AW.seq (AW.block ?_)
        repeat refine AW.seq ?_
        refine AW.reg ?_
        have hF := And.intro (hlt) (And.intro (hzi) (And.intro (hj2) (And.intro (hj5) (And.intro (hj6) (And.intro (hzl) (And.intro (he) (hG)))))))
        repeat (first | refine wD1 ?_ | refine wD2 ?_ | refine wE1 ?_ | refine wE2 ?_ | (refine wE3 ?_; intro _) | (refine wE4 ?_; intro _) | refine wN ?_ | ((with_reducible show evIs _ (_ :: _) _ _); first | refine wQ ?_ | refine wF ?_ | refine wG ?_ | refine wT ?_ | refine wM ?_ | refine wS ?_ | refine wP ?_ | refine wJ ?_ | refine wX ?_ | refine wY ?_ | refine wZ ?_))
        clear hF
        repeat refine evDone ?_
        try (show AW _ _ _ _ _)
        repeat refine AW.seq ?_
        refine AW.draw ?_
        by_cases hyx : y1 = x1
        · have hny : ¬ x2 ≤ y2 := by omega
          subst hyx
          have hF := And.intro (hlt) (And.intro (hzi) (And.intro (hj1) (And.intro (hj2) (And.intro (hj3) (And.intro (hj4) (And.intro (hj5) (And.intro (hj6) (And.intro (hj7) (And.intro (hwj) (And.intro (hwj2) (And.intro (hzl) (And.intro (he) (And.intro (hey) (And.intro (hng) (And.intro (hny) (hG))))))))))))))))
          repeat (first | refine wD1 ?_ | refine wD2 ?_ | refine wE1 ?_ | refine wE2 ?_ | refine wE6 ?_ | refine wE7 ?_ | refine wE5 ?_ | refine wN ?_ | ((with_reducible show evIs _ (_ :: _) _ _); first | refine wQ ?_ | refine wF ?_ | refine wG ?_ | refine wT ?_ | refine wM ?_ | refine wS ?_ | refine wP ?_ | refine wJ ?_ | refine wX ?_ | refine wY ?_ | refine wZ ?_))
          clear hF
          repeat refine evDone ?_
          try (show AW _ _ _ _ _)
          repeat refine AW.seq ?_
          refine AW.condF (by simp []) (by simp []) ?_
          refine AW.skip ?_
          show AW _ _ _ _ _
          refine AW.reg ?_
          have hF := And.intro (hw1) (And.intro (hw2) (hG))
          repeat (first | refine wD1 ?_ | refine wD2 ?_ | refine wE1 ?_ | refine wE2 ?_ | (refine wE3 ?_; intro _) | (refine wE4 ?_; intro _) | refine wN ?_ | ((with_reducible show evIs _ (_ :: _) _ _); first | refine wQ ?_ | refine wF ?_ | refine wG ?_ | refine wT ?_ | refine wM ?_ | refine wS ?_ | refine wP ?_ | refine wJ ?_ | refine wX ?_ | refine wY ?_ | refine wZ ?_))
          clear hF
          repeat refine evDone ?_
          try (show AW _ _ _ _ _)
          refine ⟨(j + 1 + 1, n + 100), ⟨by dsimp only; omega, by dsimp only; omega⟩, by dsimp only; omega, ?_⟩
          refine Fit.mk _ _ _ (by simp [hw1, hw2, hG, hf, conv2, newEmp, convs_refl, convs, conv]) (by simp [hw1, hw2, hG, hf, heapFit, newEmp, conv2s, conv2, convs_refl, convs, conv]) (by intro q hq; first | (simp at hq; done) | (simp at hq; omega) | (simp at hq; simp; omega))
        · have hyx2 : (y1 == x1) = false := by simpa using hyx
          have hF := And.intro (hlt) (And.intro (hzi) (And.intro (hj1) (And.intro (hj2) (And.intro (hj3) (And.intro (hj4) (And.intro (hj5) (And.intro (hj6) (And.intro (hj7) (And.intro (hwj) (And.intro (hwj2) (And.intro (hzl) (And.intro (he) (And.intro (hey) (And.intro (hng) (And.intro (hyx) (And.intro (hyx2) (hG)))))))))))))))))
          repeat (first | refine wD1 ?_ | refine wD2 ?_ | refine wE1 ?_ | refine wE2 ?_ | refine wE6 ?_ | refine wE7 ?_ | refine wE5 ?_ | refine wN ?_ | ((with_reducible show evIs _ (_ :: _) _ _); first | refine wQ ?_ | refine wF ?_ | refine wG ?_ | refine wT ?_ | refine wM ?_ | refine wS ?_ | refine wP ?_ | refine wJ ?_ | refine wX ?_ | refine wY ?_ | refine wZ ?_))
          clear hF
          repeat refine evDone ?_
          try (show AW _ _ _ _ _)
          repeat refine AW.seq ?_
          refine AW.condF (by simp []) (by simp []) ?_
          refine AW.skip ?_
          show AW _ _ _ _ _
          refine AW.reg ?_
          have hF := And.intro (hw1) (And.intro (hw2) (hG))
          repeat (first | refine wD1 ?_ | refine wD2 ?_ | refine wE1 ?_ | refine wE2 ?_ | (refine wE3 ?_; intro _) | (refine wE4 ?_; intro _) | refine wN ?_ | ((with_reducible show evIs _ (_ :: _) _ _); first | refine wQ ?_ | refine wF ?_ | refine wG ?_ | refine wT ?_ | refine wM ?_ | refine wS ?_ | refine wP ?_ | refine wJ ?_ | refine wX ?_ | refine wY ?_ | refine wZ ?_))
          clear hF
          repeat refine evDone ?_
          try (show AW _ _ _ _ _)
          refine ⟨(j + 1 + 1, n + 100), ⟨by dsimp only; omega, by dsimp only; omega⟩, by dsimp only; omega, ?_⟩
          refine Fit.mk _ _ _ (by simp [hw1, hw2, hG, hf, conv2, newEmp, convs_refl, convs, conv]) (by simp [hw1, hw2, hG, hf, heapFit, newEmp, conv2s, conv2, convs_refl, convs, conv]) (by intro q hq; first | (simp at hq; done) | (simp at hq; omega) | (simp at hq; simp; omega))
    · have hlt2 : ¬ (i : Int) < l.length := by omega
      have hF := And.intro (hlt) (hlt2)
      repeat (first | refine wD1 ?_ | refine wD2 ?_ | refine wE1 ?_ | refine wE2 ?_ | (refine wE3 ?_; intro _) | (refine wE4 ?_; intro _) | refine wN ?_ | ((with_reducible show evIs _ (_ :: _) _ _); first | refine wQ ?_ | refine wF ?_ | refine wG ?_ | refine wT ?_ | refine wM ?_ | refine wS ?_ | refine wP ?_ | refine wJ ?_ | refine wX ?_ | refine wY ?_ | refine wZ ?_))
      clear hF
      repeat refine evDone ?_
      try (show AW _ _ _ _ _)
      repeat refine AW.seq ?_
      refine AW.condF (by simp []) (by simp []) ?_
      refine AW.exit ?_
      refine ⟨rfl, n, hn, ?_⟩
      refine Fit.mk _ _ _ (by simp [hG, conv2, newEmp, convs_refl, convs, conv]) (by simp [hG, heapFit, newEmp, conv2s, conv2, convs_refl, convs, conv]) (by intro q hq; first | (simp at hq; done) | (simp at hq; omega) | (simp at hq; simp; omega))
  intro n hn
  show AW _ _ _ _ _
  rw [mkS_eq]
  have hG : (B1 = Ha) = False ∧ (B1 = B2) = False ∧ (B1 = Hb) = False ∧ (Ha = B1) = False ∧ (Ha = B2) = False ∧ (Ha = Hb) = False ∧ (B2 = B1) = False ∧ (B2 = Ha) = False ∧ (B2 = Hb) = False ∧ (Hb = B1) = False ∧ (Hb = Ha) = False ∧ (Hb = B2) = False ∧ B1 < n ∧ (∀ q, B1 < n + q) ∧ (∀ q, (B1 = n + q) = False) ∧ (∀ q, (n + q = B1) = False) ∧ Ha < n ∧ (∀ q, Ha < n + q) ∧ (∀ q, (Ha = n + q) = False) ∧ (∀ q, (n + q = Ha) = False) ∧ B2 < n ∧ (∀ q, B2 < n + q) ∧ (∀ q, (B2 = n + q) = False) ∧ (∀ q, (n + q = B2) = False) ∧ Hb < n ∧ (∀ q, Hb < n + q) ∧ (∀ q, (Hb = n + q) = False) ∧ (∀ q, (n + q = Hb) = False) ∧ (∀ q, (n + q < n) = False) := ⟨eq_false (by omega), eq_false (by omega), eq_false (by omega), eq_false (by omega), eq_false (by omega), eq_false (by omega), eq_false (by omega), eq_false (by omega), eq_false (by omega), eq_false (by omega), eq_false (by omega), eq_false (by omega), by omega, fun q => by omega, fun q => eq_false (by omega), fun q => eq_false (by omega), by omega, fun q => by omega, fun q => eq_false (by omega), fun q => eq_false (by omega), by omega, fun q => by omega, fun q => eq_false (by omega), fun q => eq_false (by omega), by omega, fun q => by omega, fun q => eq_false (by omega), fun q => eq_false (by omega), fun q => eq_false (by omega)⟩
  repeat refine AW.seq ?_
  refine AW.reg ?_
  have hF := And.intro (hzl) (hG)
  repeat (first | refine wD1 ?_ | refine wD2 ?_ | refine wE1 ?_ | refine wE2 ?_ | (refine wE3 ?_; intro _) | (refine wE4 ?_; intro _) | refine wN ?_ | ((with_reducible show evIs _ (_ :: _) _ _); first | refine wQ ?_ | refine wF ?_ | refine wG ?_ | refine wT ?_ | refine wM ?_ | refine wS ?_ | refine wP ?_ | refine wJ ?_ | refine wX ?_ | refine wY ?_ | refine wZ ?_))
  clear hF
  repeat refine evDone ?_
  try (show AW _ _ _ _ _)
  have hF := And.intro (hma) (And.intro (hcs) (And.intro (hss) (hG)))
  refine wC (hA := h25b) ?_
  clear hF
  have hF := And.intro (hzl) (hG)
  repeat (first | refine wD1 ?_ | refine wD2 ?_ | refine wE1 ?_ | refine wE2 ?_ | (refine wE3 ?_; intro _) | (refine wE4 ?_; intro _) | refine wN ?_ | ((with_reducible show evIs _ (_ :: _) _ _); first | refine wQ ?_ | refine wF ?_ | refine wG ?_ | refine wT ?_ | refine wM ?_ | refine wS ?_ | refine wP ?_ | refine wJ ?_ | refine wX ?_ | refine wY ?_ | refine wZ ?_))
  clear hF
  repeat refine evDone ?_
  try (show AW _ _ _ _ _)
  have hF := And.intro (hma) (And.intro (hcs) (And.intro (hss) (hG)))
  refine wC (hA := h27) ?_
  clear hF
  have hF := And.intro (hzl) (hG)
  repeat (first | refine wD1 ?_ | refine wD2 ?_ | refine wE1 ?_ | refine wE2 ?_ | (refine wE3 ?_; intro _) | (refine wE4 ?_; intro _) | refine wN ?_ | ((with_reducible show evIs _ (_ :: _) _ _); first | refine wQ ?_ | refine wF ?_ | refine wG ?_ | refine wT ?_ | refine wM ?_ | refine wS ?_ | refine wP ?_ | refine wJ ?_ | refine wX ?_ | refine wY ?_ | refine wZ ?_))
  clear hF
  repeat refine evDone ?_
  try (show AW _ _ _ _ _)
  have hF := True.intro
  refine wC (hA := hw) ?_
  clear hF
  have hF := And.intro (hzl) (hG)
  repeat (first | refine wD1 ?_ | refine wD2 ?_ | refine wE1 ?_ | refine wE2 ?_ | (refine wE3 ?_; intro _) | (refine wE4 ?_; intro _) | refine wN ?_ | ((with_reducible show evIs _ (_ :: _) _ _); first | refine wQ ?_ | refine wF ?_ | refine wG ?_ | refine wT ?_ | refine wM ?_ | refine wS ?_ | refine wP ?_ | refine wJ ?_ | refine wX ?_ | refine wY ?_ | refine wZ ?_))
  clear hF
  repeat refine evDone ?_
  try (show AW _ _ _ _ _)
  refine AW.ret (retI rfl ?_)
  simp [a5_res, resOk, resP, resV, ARes.op, R2s, R2, R1s, R1, closeOk, closeV]
end Go.Proofs.Ytljahaeachdjmaa
