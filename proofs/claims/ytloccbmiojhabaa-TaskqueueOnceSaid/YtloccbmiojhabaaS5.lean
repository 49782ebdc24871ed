/- Contracts of chapter 40's functions, tenth part: the statements Add, Poll and Tokens. -/
import Derived.Test.YtloccbmiojhabaaS4
import Derived.Test.YtloccbmiojhabaaA3

set_option linter.unusedSimpArgs false
set_option linter.unusedVariables false
set_option maxHeartbeats 4000000
namespace Go.Proofs.Ytloccbmiojhabaa
open Go Go.Amb Go.IntWalk

def qq (ys : List Item) (tk : Int) : AV := .agg [.sl .fro (ys.map Item.av), .int .i64 tk]
theorem clC_qz : clC qz = qq [] 0 := by simp [qz, qq]
theorem clC_qv (K : SK) (hK : K = .fro ∨ ∃ n, K = .own n) (xs : List Item) (tok : Int) : clC (qv K xs tok) = qq xs tok := by
  rcases hK with rfl | ⟨n, rfl⟩ <;> simp [qv, qq, clC_items, Function.comp_def]
theorem item_cl (x : Item) : clC x.av = x.av := by simp
theorem zItem_av : zItem = (⟨⟨0, 0, 0, 0, 0, 0, ⟨#[]⟩, ⟨#[]⟩, ⟨#[]⟩⟩, ⟨#[]⟩, 0, 0, 0⟩ : Item).av := rfl
theorem clT2 (a b : AV) : clC (.tup [a, b]) = .tup [clC a, clC b] := by simp
theorem clT4 (a b c d : AV) : clC (.tup [a, b, c, d]) = .tup [clC a, clC b, clC c, clC d] := by simp
theorem clInt (k : IntKind) (i : Int) : clC (.int k i) = .int k i := by simp
theorem clBool (b : Bool) : clC (.bool b) = .bool b := by simp
theorem add_shape (xs : List Item) (tok : Int) (t : Task) (h : xs.length ≤ 1001) : ∃ ys tk, ys.length ≤ 1002 ∧ clC (addQ .fro xs tok t) = qq ys tk := by
  unfold addQ
  split
  · exact ⟨[], 0, by simp, clC_qz⟩
  split
  · exact ⟨xs, tok, by omega, clC_qv _ (.inl rfl) _ _⟩
  split
  · exact ⟨[], 0, by simp, clC_qz⟩
  · exact ⟨xs ++ [newItem t], tok, by simp; omega, clC_qv _ (.inr ⟨_, rfl⟩) _ _⟩
theorem poll_shape (xs : List Item) (tok : Int) (h : ByteArray) (now ttl : Int) (hl : xs.length ≤ 1001) :
    ∃ ys tk y b e, ys.length ≤ 1002 ∧ clC (pollR .fro xs tok h now ttl) = .tup [qq ys tk, Item.av y, .bool b, .int .i64 e] := by
  unfold pollR
  split
  · exact ⟨[], 0, _, _, _, by simp, by rw [clT4, clC_qz, zItem_av, item_cl, clBool, clInt]⟩
  cases h3 : xs.findIdx? (avail · now) with
  | none => exact ⟨xs, tok, _, _, _, by omega, by rw [clT4, clC_qv _ (.inl rfl), zItem_av, item_cl, clBool, clInt]⟩
  | some k =>
    have hk : k < xs.length := (List.findIdx?_eq_some_iff_getElem.1 h3).1
    have hx := List.getElem?_eq_getElem hk
    simp only []
    rw [hx]
    simp only []
    split
    · exact ⟨[], 0, _, _, _, by simp, by rw [clT4, clC_qz, zItem_av, item_cl, clBool, clInt]⟩
    · exact ⟨_, _, _, _, _, (by rw [List.length_set]; omega : (xs.set k (given _ h now ttl tok)).length ≤ 1002), by rw [clT4, clC_qv _ (.inr ⟨_, rfl⟩), item_cl, clBool, clInt]⟩
theorem ack_shape (xs : List Item) (tok t : Int) (hl : xs.length ≤ 1001) : ∃ ys tk e, ys.length ≤ 1002 ∧ clC (ackR xs tok t) = .tup [qq ys tk, .int .i64 e] := by
  unfold ackR
  cases heldK xs t with
  | none => exact ⟨[], 0, 24, by simp, by show clC (.tup [qz, .int .i64 24]) = _; rw [clT2, clC_qz, clInt]⟩
  | some k => exact ⟨xs.take k ++ xs.drop (k + 1), tok, 0, by simp; omega, by simp only []; rw [clT2, clC_qv _ (.inr ⟨_, rfl⟩), clInt]⟩
theorem ext_shape (xs : List Item) (tok t now ttl : Int) (hl : xs.length ≤ 1001) : ∃ ys tk e, ys.length ≤ 1002 ∧ clC (extR xs tok t now ttl) = .tup [qq ys tk, .int .i64 e] := by
  unfold extR
  split
  · exact ⟨[], 0, _, by simp, by rw [clT2, clC_qz, clInt]⟩
  rcases held_cases xs t with ⟨-, h4⟩ | ⟨k, x, -, h4, hk, hx⟩
  · rw [h4]; exact ⟨[], 0, 24, by simp, by show clC (.tup [qz, .int .i64 24]) = _; rw [clT2, clC_qz, clInt]⟩
  · rw [h4]; simp only []; rw [hx]; simp only []
    split
    · exact ⟨[], 0, _, by simp, by rw [clT2, clC_qz, clInt]⟩
    · exact ⟨xs.set k (longer x now ttl), tok, 0, by rw [List.length_set]; omega, by rw [clT2, clC_qv _ (.inr ⟨_, rfl⟩), clInt]⟩
theorem ret_shape (xs : List Item) (tok t : Int) (hl : xs.length ≤ 1001) : ∃ ys tk e, ys.length ≤ 1002 ∧ clC (retR xs tok t) = .tup [qq ys tk, .int .i64 e] := by
  unfold retR
  rcases held_cases xs t with ⟨-, h4⟩ | ⟨k, x, -, h4, hk, hx⟩
  · rw [h4]; exact ⟨[], 0, 24, by simp, by show clC (.tup [qz, .int .i64 24]) = _; rw [clT2, clC_qz, clInt]⟩
  · rw [h4]; simp only []; rw [hx]; simp only []
    exact ⟨xs.set k (let_ x), tok, 0, by rw [List.length_set]; omega, by rw [clT2, clC_qv _ (.inr ⟨_, rfl⟩), clInt]⟩
theorem free_cl (xs : List Item) (now : Int) : (free xs now).map clC = free xs now := by
  simp [free, Item.tav, Function.comp_def]

theorem f3 (xs : List Item) (tok : Int) (t : Task) : ACall Try.prog 3 [.agg [items xs, .int .i64 tok], .agg t.cells] (· = .bool true) := by
  obtain ⟨a1, a2, a3, a4, a5, a6, a7, a8, a9⟩ := t
  simp only [Task.cells]
  refine a3_of (by simp) ?_
  repeat refine AW.seq ?_
  refine AW.reg ?_
  have hF := True.intro
  repeat (first | refine wD1 ?_ | refine wD2 ?_ | refine wE1 ?_ | refine wE2 ?_ | (refine wE3 ?_; intro _) | (refine wE4 ?_; intro _) | refine wN ?_ | ((with_reducible show evIs _ (_ :: _) _ _); first | refine wQ ?_ | refine wF ?_ | refine wG ?_ | refine wT ?_ | refine wM ?_ | refine wS ?_ | refine wP ?_ | refine wJ ?_ | refine wX ?_ | refine wY ?_))
  clear hF
  repeat refine evDone ?_
  try (show AW _ _ _ _ _)
  repeat refine AW.seq ?_
  refine AW.reg ?_
  have hF := True.intro
  repeat (first | refine wD1 ?_ | refine wD2 ?_ | refine wE1 ?_ | refine wE2 ?_ | (refine wE3 ?_; intro _) | (refine wE4 ?_; intro _) | refine wN ?_ | ((with_reducible show evIs _ (_ :: _) _ _); first | refine wQ ?_ | refine wF ?_ | refine wG ?_ | refine wT ?_ | refine wM ?_ | refine wS ?_ | refine wP ?_ | refine wJ ?_ | refine wX ?_ | refine wY ?_))
  clear hF
  repeat refine evDone ?_
  try (show AW _ _ _ _ _)
  have hF := True.intro
  refine wC (hA := f7 xs tok) ?_
  clear hF
  have hF := True.intro
  repeat (first | refine wD1 ?_ | refine wD2 ?_ | refine wE1 ?_ | refine wE2 ?_ | (refine wE3 ?_; intro _) | (refine wE4 ?_; intro _) | refine wN ?_ | ((with_reducible show evIs _ (_ :: _) _ _); first | refine wQ ?_ | refine wF ?_ | refine wG ?_ | refine wT ?_ | refine wM ?_ | refine wS ?_ | refine wP ?_ | refine wJ ?_ | refine wX ?_ | refine wY ?_))
  clear hF
  repeat refine evDone ?_
  try (show AW _ _ _ _ _)
  by_cases h1 : 1001 < (xs.length : Int)
  · repeat refine AW.seq ?_
    refine AW.condT (by simp [h1]) (by simp [h1]) ?_
    repeat refine AW.seq ?_
    refine AW.reg ?_
    have hF := True.intro
    repeat (first | refine wD1 ?_ | refine wD2 ?_ | refine wE1 ?_ | refine wE2 ?_ | (refine wE3 ?_; intro _) | (refine wE4 ?_; intro _) | refine wN ?_ | ((with_reducible show evIs _ (_ :: _) _ _); first | refine wQ ?_ | refine wF ?_ | refine wG ?_ | refine wT ?_ | refine wM ?_ | refine wS ?_ | refine wP ?_ | refine wJ ?_ | refine wX ?_ | refine wY ?_))
    clear hF
    repeat refine evDone ?_
    try (show AW _ _ _ _ _)
    have hF := True.intro
    refine wC (hA := works) ?_
    clear hF
    have hF := True.intro
    repeat (first | refine wD1 ?_ | refine wD2 ?_ | refine wE1 ?_ | refine wE2 ?_ | (refine wE3 ?_; intro _) | (refine wE4 ?_; intro _) | refine wN ?_ | ((with_reducible show evIs _ (_ :: _) _ _); first | refine wQ ?_ | refine wF ?_ | refine wG ?_ | refine wT ?_ | refine wM ?_ | refine wS ?_ | refine wP ?_ | refine wJ ?_ | refine wX ?_ | refine wY ?_))
    clear hF
    repeat refine evDone ?_
    try (show AW _ _ _ _ _)
    refine AW.ret (retI rfl ?_)
    simp [a3_res, resOk, resP, resV, ARes.op, R2s, R2, R1s, R1, closeOk, closeV]
  · repeat refine AW.seq ?_
    refine AW.condF (by simp [h1]) (by simp [h1]) ?_
    refine AW.skip ?_
    show AW _ _ _ _ _
    have hcl := clC_items xs
    have h9 := f9 xs tok ⟨a1, a2, a3, a4, a5, a6, a7, a8, a9⟩ (by omega)
    have h10 := f10 xs tok ⟨a1, a2, a3, a4, a5, a6, a7, a8, a9⟩ (by omega)
    have h11 := f11 xs tok (by omega)
    obtain ⟨ys, tk, hys, hsh⟩ := add_shape xs tok ⟨a1, a2, a3, a4, a5, a6, a7, a8, a9⟩ (by omega)
    have h12 := f12 ys tk (by omega)
    simp only [Task.cells] at h9 h10
    unfold qq at hsh
    generalize addQ .fro xs tok ⟨a1, a2, a3, a4, a5, a6, a7, a8, a9⟩ = A at h9 h10 hsh
    generalize addB xs ⟨a1, a2, a3, a4, a5, a6, a7, a8, a9⟩ = b at h9 h10
    generalize addE xs ⟨a1, a2, a3, a4, a5, a6, a7, a8, a9⟩ = e at h9 h10
    refine AW.cut (st' := mkS [(2, .ptr 0 0 0), (3, .ptr 1 0 0), (5, .ptr 14 0 0), (6, .bool b), (7, .int .i64 e)] [(0, ⟨2, true, [.agg [items xs, .int .i64 tok]]⟩), (1, ⟨9, true, [.agg [.int .i64 a1, .int .i64 a2, .int .i64 a3, .int .i64 a4, .int .i64 a5, .int .i64 a6, .str a7, .str a8, .str a9]]⟩), (14, ⟨2, true, [.agg [items ys, .int .i64 tk]]⟩)] 100) ?_ ?_
    · repeat refine AW.seq ?_
      refine AW.reg ?_
      have hF := True.intro
      repeat (first | refine wD1 ?_ | refine wD2 ?_ | refine wE1 ?_ | refine wE2 ?_ | (refine wE3 ?_; intro _) | (refine wE4 ?_; intro _) | refine wN ?_ | ((with_reducible show evIs _ (_ :: _) _ _); first | refine wQ ?_ | refine wF ?_ | refine wG ?_ | refine wT ?_ | refine wM ?_ | refine wS ?_ | refine wP ?_ | refine wJ ?_ | refine wX ?_ | refine wY ?_))
      clear hF
      repeat refine evDone ?_
      try (show AW _ _ _ _ _)
      have hF := hsh
      refine wC (hA := h9) ?_
      clear hF
      have hF := True.intro
      repeat (first | refine wD1 ?_ | refine wD2 ?_ | refine wE1 ?_ | refine wE2 ?_ | (refine wE3 ?_; intro _) | (refine wE4 ?_; intro _) | refine wN ?_ | ((with_reducible show evIs _ (_ :: _) _ _); first | refine wQ ?_ | refine wF ?_ | refine wG ?_ | refine wT ?_ | refine wM ?_ | refine wS ?_ | refine wP ?_ | refine wJ ?_ | refine wX ?_ | refine wY ?_))
      clear hF
      repeat refine evDone ?_
      try (show AW _ _ _ _ _)
      refine ⟨rfl, ?_⟩
      refine Fit.mk _ _ _ (by simp [conv2, newEmp, convs_refl, convs, conv]) (by simp [heapFit, newEmp, conv2s, conv2, convs_refl, convs, conv]) (by intro q hq; first | (simp at hq; done) | (simp at hq; omega) | (simp at hq; simp; omega))
    refine AW.cut (st' := mkS [(5, .ptr 14 0 0), (6, .bool b), (7, .int .i64 e), (8, .ptr 126 0 0), (9, .bool b), (10, .int .i64 e)] [(14, ⟨2, true, [.agg [items ys, .int .i64 tk]]⟩), (126, ⟨2, true, [.agg [items ys, .int .i64 tk]]⟩)] 200) ?_ ?_
    · refine AW.draw ?_
      have hF := True.intro
      repeat (first | refine wD1 ?_ | refine wD2 ?_ | refine wE1 ?_ | refine wE2 ?_ | (refine wE3 ?_; intro _) | (refine wE4 ?_; intro _) | refine wN ?_ | ((with_reducible show evIs _ (_ :: _) _ _); first | refine wQ ?_ | refine wF ?_ | refine wG ?_ | refine wT ?_ | refine wM ?_ | refine wS ?_ | refine wP ?_ | refine wJ ?_ | refine wX ?_ | refine wY ?_))
      clear hF
      repeat refine evDone ?_
      try (show AW _ _ _ _ _)
      refine evTwo ?_ ?_
      · have hF := True.intro
        repeat (first | refine wD1 ?_ | refine wD2 ?_ | refine wE1 ?_ | refine wE2 ?_ | (refine wE3 ?_; intro _) | (refine wE4 ?_; intro _) | refine wN ?_ | ((with_reducible show evIs _ (_ :: _) _ _); first | refine wQ ?_ | refine wF ?_ | refine wG ?_ | refine wT ?_ | refine wM ?_ | refine wS ?_ | refine wP ?_ | refine wJ ?_ | refine wX ?_ | refine wY ?_))
        clear hF
        repeat refine evDone ?_
        try (show AW _ _ _ _ _)
        have hF := hcl
        refine wC (hA := h11) ?_
        clear hF
        have hF := True.intro
        repeat (first | refine wD1 ?_ | refine wD2 ?_ | refine wE1 ?_ | refine wE2 ?_ | (refine wE3 ?_; intro _) | (refine wE4 ?_; intro _) | refine wN ?_ | ((with_reducible show evIs _ (_ :: _) _ _); first | refine wQ ?_ | refine wF ?_ | refine wG ?_ | refine wT ?_ | refine wM ?_ | refine wS ?_ | refine wP ?_ | refine wJ ?_ | refine wX ?_ | refine wY ?_))
        clear hF
        repeat refine evDone ?_
        try (show AW _ _ _ _ _)
        refine evTwo ?_ ?_
        · have hF := True.intro
          repeat (first | refine wD1 ?_ | refine wD2 ?_ | refine wE1 ?_ | refine wE2 ?_ | (refine wE3 ?_; intro _) | (refine wE4 ?_; intro _) | refine wN ?_ | ((with_reducible show evIs _ (_ :: _) _ _); first | refine wQ ?_ | refine wF ?_ | refine wG ?_ | refine wT ?_ | refine wM ?_ | refine wS ?_ | refine wP ?_ | refine wJ ?_ | refine wX ?_ | refine wY ?_))
          clear hF
          repeat refine evDone ?_
          try (show AW _ _ _ _ _)
          have hF := hsh
          refine wC (hA := h10) ?_
          clear hF
          have hF := True.intro
          repeat (first | refine wD1 ?_ | refine wD2 ?_ | refine wE1 ?_ | refine wE2 ?_ | (refine wE3 ?_; intro _) | (refine wE4 ?_; intro _) | refine wN ?_ | ((with_reducible show evIs _ (_ :: _) _ _); first | refine wQ ?_ | refine wF ?_ | refine wG ?_ | refine wT ?_ | refine wM ?_ | refine wS ?_ | refine wP ?_ | refine wJ ?_ | refine wX ?_ | refine wY ?_))
          clear hF
          repeat refine evDone ?_
          try (show AW _ _ _ _ _)
          refine ⟨rfl, ?_⟩
          refine Fit.mk _ _ _ (by simp [conv2, newEmp, convs_refl, convs, conv]) (by simp [heapFit, newEmp, conv2s, conv2, convs_refl, convs, conv]) (by intro q hq; first | (simp at hq; done) | (simp at hq; omega) | (simp at hq; simp; omega))
        · have hF := True.intro
          repeat (first | refine wD1 ?_ | refine wD2 ?_ | refine wE1 ?_ | refine wE2 ?_ | (refine wE3 ?_; intro _) | (refine wE4 ?_; intro _) | refine wN ?_ | ((with_reducible show evIs _ (_ :: _) _ _); first | refine wQ ?_ | refine wF ?_ | refine wG ?_ | refine wT ?_ | refine wM ?_ | refine wS ?_ | refine wP ?_ | refine wJ ?_ | refine wX ?_ | refine wY ?_))
          clear hF
          repeat refine evDone ?_
          try (show AW _ _ _ _ _)
          have hF := hsh
          refine wC (hA := h10) ?_
          clear hF
          have hF := True.intro
          repeat (first | refine wD1 ?_ | refine wD2 ?_ | refine wE1 ?_ | refine wE2 ?_ | (refine wE3 ?_; intro _) | (refine wE4 ?_; intro _) | refine wN ?_ | ((with_reducible show evIs _ (_ :: _) _ _); first | refine wQ ?_ | refine wF ?_ | refine wG ?_ | refine wT ?_ | refine wM ?_ | refine wS ?_ | refine wP ?_ | refine wJ ?_ | refine wX ?_ | refine wY ?_))
          clear hF
          repeat refine evDone ?_
          try (show AW _ _ _ _ _)
          refine ⟨rfl, ?_⟩
          refine Fit.mk _ _ _ (by simp [conv2, newEmp, convs_refl, convs, conv]) (by simp [heapFit, newEmp, conv2s, conv2, convs_refl, convs, conv]) (by intro q hq; first | (simp at hq; done) | (simp at hq; omega) | (simp at hq; simp; omega))
      · have hF := True.intro
        repeat (first | refine wD1 ?_ | refine wD2 ?_ | refine wE1 ?_ | refine wE2 ?_ | (refine wE3 ?_; intro _) | (refine wE4 ?_; intro _) | refine wN ?_ | ((with_reducible show evIs _ (_ :: _) _ _); first | refine wQ ?_ | refine wF ?_ | refine wG ?_ | refine wT ?_ | refine wM ?_ | refine wS ?_ | refine wP ?_ | refine wJ ?_ | refine wX ?_ | refine wY ?_))
        clear hF
        repeat refine evDone ?_
        try (show AW _ _ _ _ _)
        have hF := hcl
        refine wC (hA := h11) ?_
        clear hF
        have hF := True.intro
        repeat (first | refine wD1 ?_ | refine wD2 ?_ | refine wE1 ?_ | refine wE2 ?_ | (refine wE3 ?_; intro _) | (refine wE4 ?_; intro _) | refine wN ?_ | ((with_reducible show evIs _ (_ :: _) _ _); first | refine wQ ?_ | refine wF ?_ | refine wG ?_ | refine wT ?_ | refine wM ?_ | refine wS ?_ | refine wP ?_ | refine wJ ?_ | refine wX ?_ | refine wY ?_))
        clear hF
        repeat refine evDone ?_
        try (show AW _ _ _ _ _)
        have hF := hsh
        refine wC (hA := h10) ?_
        clear hF
        have hF := True.intro
        repeat (first | refine wD1 ?_ | refine wD2 ?_ | refine wE1 ?_ | refine wE2 ?_ | (refine wE3 ?_; intro _) | (refine wE4 ?_; intro _) | refine wN ?_ | ((with_reducible show evIs _ (_ :: _) _ _); first | refine wQ ?_ | refine wF ?_ | refine wG ?_ | refine wT ?_ | refine wM ?_ | refine wS ?_ | refine wP ?_ | refine wJ ?_ | refine wX ?_ | refine wY ?_))
        clear hF
        repeat refine evDone ?_
        try (show AW _ _ _ _ _)
        refine ⟨rfl, ?_⟩
        refine Fit.mk _ _ _ (by simp [conv2, newEmp, convs_refl, convs, conv]) (by simp [heapFit, newEmp, conv2s, conv2, convs_refl, convs, conv]) (by intro q hq; first | (simp at hq; done) | (simp at hq; omega) | (simp at hq; simp; omega))
    refine AW.seq (AW.reg ?_)
    have hF := True.intro
    repeat (first | refine wD1 ?_ | refine wD2 ?_ | refine wE1 ?_ | refine wE2 ?_ | (refine wE3 ?_; intro _) | (refine wE4 ?_; intro _) | refine wN ?_ | ((with_reducible show evIs _ (_ :: _) _ _); first | refine wQ ?_ | refine wF ?_ | refine wG ?_ | refine wT ?_ | refine wM ?_ | refine wS ?_ | refine wP ?_ | refine wJ ?_ | refine wX ?_ | refine wY ?_))
    clear hF
    repeat refine evDone ?_
    try (show AW _ _ _ _ _)
    have hF := True.intro
    refine wC (hA := h12) ?_
    clear hF
    have hF := True.intro
    repeat (first | refine wD1 ?_ | refine wD2 ?_ | refine wE1 ?_ | refine wE2 ?_ | (refine wE3 ?_; intro _) | (refine wE4 ?_; intro _) | refine wN ?_ | ((with_reducible show evIs _ (_ :: _) _ _); first | refine wQ ?_ | refine wF ?_ | refine wG ?_ | refine wT ?_ | refine wM ?_ | refine wS ?_ | refine wP ?_ | refine wJ ?_ | refine wX ?_ | refine wY ?_))
    clear hF
    repeat refine evDone ?_
    try (show AW _ _ _ _ _)
    have hF := True.intro
    refine wC (hA := works) ?_
    clear hF
    have hF := True.intro
    repeat (first | refine wD1 ?_ | refine wD2 ?_ | refine wE1 ?_ | refine wE2 ?_ | (refine wE3 ?_; intro _) | (refine wE4 ?_; intro _) | refine wN ?_ | ((with_reducible show evIs _ (_ :: _) _ _); first | refine wQ ?_ | refine wF ?_ | refine wG ?_ | refine wT ?_ | refine wM ?_ | refine wS ?_ | refine wP ?_ | refine wJ ?_ | refine wX ?_ | refine wY ?_))
    clear hF
    repeat refine evDone ?_
    try (show AW _ _ _ _ _)
    refine AW.ret (retI rfl ?_)
    simp [a3_res, resOk, resP, resV, ARes.op, R2s, R2, R1s, R1, closeOk, closeV]

theorem f4 (xs : List Item) (tok : Int) (h : ByteArray) (now ttl : Int) : ACall Try.prog 4 [.agg [items xs, .int .i64 tok], .str h, .int .i64 now, .int .i64 ttl] (· = .bool true) := by
  refine a4_of (by simp) ?_
  repeat refine AW.seq ?_
  refine AW.reg ?_
  have hF := True.intro
  repeat (first | refine wD1 ?_ | refine wD2 ?_ | refine wE1 ?_ | refine wE2 ?_ | (refine wE3 ?_; intro _) | (refine wE4 ?_; intro _) | refine wN ?_ | ((with_reducible show evIs _ (_ :: _) _ _); first | refine wQ ?_ | refine wF ?_ | refine wG ?_ | refine wT ?_ | refine wM ?_ | refine wS ?_ | refine wP ?_ | refine wJ ?_ | refine wX ?_ | refine wY ?_))
  clear hF
  repeat refine evDone ?_
  try (show AW _ _ _ _ _)
  repeat refine AW.seq ?_
  refine AW.reg ?_
  have hF := True.intro
  repeat (first | refine wD1 ?_ | refine wD2 ?_ | refine wE1 ?_ | refine wE2 ?_ | (refine wE3 ?_; intro _) | (refine wE4 ?_; intro _) | refine wN ?_ | ((with_reducible show evIs _ (_ :: _) _ _); first | refine wQ ?_ | refine wF ?_ | refine wG ?_ | refine wT ?_ | refine wM ?_ | refine wS ?_ | refine wP ?_ | refine wJ ?_ | refine wX ?_ | refine wY ?_))
  clear hF
  repeat refine evDone ?_
  try (show AW _ _ _ _ _)
  have hF := True.intro
  refine wC (hA := f7 xs tok) ?_
  clear hF
  by_cases h1 : 1001 < (xs.length : Int)
  · have hF := h1
    repeat (first | refine wD1 ?_ | refine wD2 ?_ | refine wE1 ?_ | refine wE2 ?_ | (refine wE3 ?_; intro _) | (refine wE4 ?_; intro _) | refine wN ?_ | ((with_reducible show evIs _ (_ :: _) _ _); first | refine wQ ?_ | refine wF ?_ | refine wG ?_ | refine wT ?_ | refine wM ?_ | refine wS ?_ | refine wP ?_ | refine wJ ?_ | refine wX ?_ | refine wY ?_))
    clear hF
    repeat refine evDone ?_
    try (show AW _ _ _ _ _)
    repeat refine AW.seq ?_
    refine AW.condT (by simp [h1]) (by simp [h1]) ?_
    repeat refine AW.seq ?_
    refine AW.reg ?_
    have hF := True.intro
    repeat (first | refine wD1 ?_ | refine wD2 ?_ | refine wE1 ?_ | refine wE2 ?_ | (refine wE3 ?_; intro _) | (refine wE4 ?_; intro _) | refine wN ?_ | ((with_reducible show evIs _ (_ :: _) _ _); first | refine wQ ?_ | refine wF ?_ | refine wG ?_ | refine wT ?_ | refine wM ?_ | refine wS ?_ | refine wP ?_ | refine wJ ?_ | refine wX ?_ | refine wY ?_))
    clear hF
    repeat refine evDone ?_
    try (show AW _ _ _ _ _)
    have hF := True.intro
    refine wC (hA := works) ?_
    clear hF
    have hF := True.intro
    repeat (first | refine wD1 ?_ | refine wD2 ?_ | refine wE1 ?_ | refine wE2 ?_ | (refine wE3 ?_; intro _) | (refine wE4 ?_; intro _) | refine wN ?_ | ((with_reducible show evIs _ (_ :: _) _ _); first | refine wQ ?_ | refine wF ?_ | refine wG ?_ | refine wT ?_ | refine wM ?_ | refine wS ?_ | refine wP ?_ | refine wJ ?_ | refine wX ?_ | refine wY ?_))
    clear hF
    repeat refine evDone ?_
    try (show AW _ _ _ _ _)
    refine AW.ret (retI rfl ?_)
    simp [a4_res, resOk, resP, resV, ARes.op, R2s, R2, R1s, R1, closeOk, closeV]
  · by_cases h2 : 200 < (h.size : Int)
    · have hF := And.intro (h1) (h2)
      repeat (first | refine wD1 ?_ | refine wD2 ?_ | refine wE1 ?_ | refine wE2 ?_ | (refine wE3 ?_; intro _) | (refine wE4 ?_; intro _) | refine wN ?_ | ((with_reducible show evIs _ (_ :: _) _ _); first | refine wQ ?_ | refine wF ?_ | refine wG ?_ | refine wT ?_ | refine wM ?_ | refine wS ?_ | refine wP ?_ | refine wJ ?_ | refine wX ?_ | refine wY ?_))
      clear hF
      repeat refine evDone ?_
      try (show AW _ _ _ _ _)
      repeat refine AW.seq ?_
      refine AW.condT (by simp [h1, h2]) (by simp [h1, h2]) ?_
      repeat refine AW.seq ?_
      refine AW.reg ?_
      have hF := True.intro
      repeat (first | refine wD1 ?_ | refine wD2 ?_ | refine wE1 ?_ | refine wE2 ?_ | (refine wE3 ?_; intro _) | (refine wE4 ?_; intro _) | refine wN ?_ | ((with_reducible show evIs _ (_ :: _) _ _); first | refine wQ ?_ | refine wF ?_ | refine wG ?_ | refine wT ?_ | refine wM ?_ | refine wS ?_ | refine wP ?_ | refine wJ ?_ | refine wX ?_ | refine wY ?_))
      clear hF
      repeat refine evDone ?_
      try (show AW _ _ _ _ _)
      have hF := True.intro
      refine wC (hA := works) ?_
      clear hF
      have hF := True.intro
      repeat (first | refine wD1 ?_ | refine wD2 ?_ | refine wE1 ?_ | refine wE2 ?_ | (refine wE3 ?_; intro _) | (refine wE4 ?_; intro _) | refine wN ?_ | ((with_reducible show evIs _ (_ :: _) _ _); first | refine wQ ?_ | refine wF ?_ | refine wG ?_ | refine wT ?_ | refine wM ?_ | refine wS ?_ | refine wP ?_ | refine wJ ?_ | refine wX ?_ | refine wY ?_))
      clear hF
      repeat refine evDone ?_
      try (show AW _ _ _ _ _)
      refine AW.ret (retI rfl ?_)
      simp [a4_res, resOk, resP, resV, ARes.op, R2s, R2, R1s, R1, closeOk, closeV]
    have hF := And.intro (h1) (h2)
    repeat (first | refine wD1 ?_ | refine wD2 ?_ | refine wE1 ?_ | refine wE2 ?_ | (refine wE3 ?_; intro _) | (refine wE4 ?_; intro _) | refine wN ?_ | ((with_reducible show evIs _ (_ :: _) _ _); first | refine wQ ?_ | refine wF ?_ | refine wG ?_ | refine wT ?_ | refine wM ?_ | refine wS ?_ | refine wP ?_ | refine wJ ?_ | refine wX ?_ | refine wY ?_))
    clear hF
    repeat refine evDone ?_
    try (show AW _ _ _ _ _)
    repeat refine AW.seq ?_
    refine AW.condF (by simp [h1, h2]) (by simp [h1, h2]) ?_
    refine AW.skip ?_
    show AW _ _ _ _ _
    have hcl := clC_items xs
    have h13 := f13 xs tok h now ttl (by omega)
    have h14 := f14 xs tok h now ttl (by omega)
    have h11 := f11 xs tok (by omega)
    obtain ⟨ys, tk, y, b, e, hys, hsh⟩ := poll_shape xs tok h now ttl (by omega)
    obtain ⟨⟨b1, b2, b3, b4, b5, b6, b7, b8, b9⟩, b10, b11, b12, b13⟩ := y
    have h12 := f12 ys tk (by omega)
    simp only [Item.av] at hsh
    unfold qq at hsh
    generalize pollR .fro xs tok h now ttl = A at h13 h14 hsh
    have h16 := f16 xs tok now (by omega)
    have h17 := f17 xs tok now (by omega)
    have hfc := free_cl xs now
    have h15 := f15 (xs.filter (avail · now)) (by have := List.length_filter_le (avail · now) xs; omega)
    have hfr : ((xs.filter (avail · now)).map Item.tav) = free xs now := rfl
    rw [hfr] at h15
    generalize free xs now = F at h15 h16 h17 hfc
    refine AW.cut (st' := mkS [(1, .str h), (2, .int .i64 now), (3, .int .i64 ttl), (4, .ptr 0 0 0), (9, .ptr 21 0 0), (10, .ptr 22 0 0), (11, .bool b), (12, .int .i64 e)] [(0, ⟨2, true, [.agg [items xs, .int .i64 tok]]⟩), (21, ⟨2, true, [.agg [items ys, .int .i64 tk]]⟩), (22, ⟨13, true, [.agg [.int .i64 b1, .int .i64 b2, .int .i64 b3, .int .i64 b4, .int .i64 b5, .int .i64 b6, .str b7, .str b8, .str b9, .str b10, .int .i64 b11, .int .i64 b12, .int .i64 b13]]⟩)] 100) ?_ ?_
    · repeat refine AW.seq ?_
      refine AW.reg ?_
      have hF := True.intro
      repeat (first | refine wD1 ?_ | refine wD2 ?_ | refine wE1 ?_ | refine wE2 ?_ | (refine wE3 ?_; intro _) | (refine wE4 ?_; intro _) | refine wN ?_ | ((with_reducible show evIs _ (_ :: _) _ _); first | refine wQ ?_ | refine wF ?_ | refine wG ?_ | refine wT ?_ | refine wM ?_ | refine wS ?_ | refine wP ?_ | refine wJ ?_ | refine wX ?_ | refine wY ?_))
      clear hF
      repeat refine evDone ?_
      try (show AW _ _ _ _ _)
      have hF := hsh
      refine wC (hA := h13) ?_
      clear hF
      have hF := True.intro
      repeat (first | refine wD1 ?_ | refine wD2 ?_ | refine wE1 ?_ | refine wE2 ?_ | (refine wE3 ?_; intro _) | (refine wE4 ?_; intro _) | refine wN ?_ | ((with_reducible show evIs _ (_ :: _) _ _); first | refine wQ ?_ | refine wF ?_ | refine wG ?_ | refine wT ?_ | refine wM ?_ | refine wS ?_ | refine wP ?_ | refine wJ ?_ | refine wX ?_ | refine wY ?_))
      clear hF
      repeat refine evDone ?_
      try (show AW _ _ _ _ _)
      refine ⟨rfl, ?_⟩
      refine Fit.mk _ _ _ (by simp [conv2, newEmp, convs_refl, convs, conv]) (by simp [heapFit, newEmp, conv2s, conv2, convs_refl, convs, conv]) (by intro q hq; first | (simp at hq; done) | (simp at hq; omega) | (simp at hq; simp; omega))
    refine AW.cut (st' := mkS [(1, .str h), (2, .int .i64 now), (3, .int .i64 ttl), (4, .ptr 0 0 0), (9, .ptr 21 0 0), (10, .ptr 22 0 0), (11, .bool b), (12, .int .i64 e), (13, .ptr 138 0 0), (14, .ptr 139 0 0), (15, .bool b), (16, .int .i64 e)] [(0, ⟨2, true, [.agg [items xs, .int .i64 tok]]⟩), (21, ⟨2, true, [.agg [items ys, .int .i64 tk]]⟩), (22, ⟨13, true, [.agg [.int .i64 b1, .int .i64 b2, .int .i64 b3, .int .i64 b4, .int .i64 b5, .int .i64 b6, .str b7, .str b8, .str b9, .str b10, .int .i64 b11, .int .i64 b12, .int .i64 b13]]⟩), (138, ⟨2, true, [.agg [items ys, .int .i64 tk]]⟩), (139, ⟨13, true, [.agg [.int .i64 b1, .int .i64 b2, .int .i64 b3, .int .i64 b4, .int .i64 b5, .int .i64 b6, .str b7, .str b8, .str b9, .str b10, .int .i64 b11, .int .i64 b12, .int .i64 b13]]⟩)] 200) ?_ ?_
    · repeat refine AW.seq ?_
      refine AW.reg ?_
      have hF := True.intro
      repeat (first | refine wD1 ?_ | refine wD2 ?_ | refine wE1 ?_ | refine wE2 ?_ | (refine wE3 ?_; intro _) | (refine wE4 ?_; intro _) | refine wN ?_ | ((with_reducible show evIs _ (_ :: _) _ _); first | refine wQ ?_ | refine wF ?_ | refine wG ?_ | refine wT ?_ | refine wM ?_ | refine wS ?_ | refine wP ?_ | refine wJ ?_ | refine wX ?_ | refine wY ?_))
      clear hF
      repeat refine evDone ?_
      try (show AW _ _ _ _ _)
      have hF := hcl
      refine wC (hA := h11) ?_
      clear hF
      have hF := True.intro
      repeat (first | refine wD1 ?_ | refine wD2 ?_ | refine wE1 ?_ | refine wE2 ?_ | (refine wE3 ?_; intro _) | (refine wE4 ?_; intro _) | refine wN ?_ | ((with_reducible show evIs _ (_ :: _) _ _); first | refine wQ ?_ | refine wF ?_ | refine wG ?_ | refine wT ?_ | refine wM ?_ | refine wS ?_ | refine wP ?_ | refine wJ ?_ | refine wX ?_ | refine wY ?_))
      clear hF
      repeat refine evDone ?_
      try (show AW _ _ _ _ _)
      have hF := hsh
      refine wC (hA := h14) ?_
      clear hF
      have hF := True.intro
      repeat (first | refine wD1 ?_ | refine wD2 ?_ | refine wE1 ?_ | refine wE2 ?_ | (refine wE3 ?_; intro _) | (refine wE4 ?_; intro _) | refine wN ?_ | ((with_reducible show evIs _ (_ :: _) _ _); first | refine wQ ?_ | refine wF ?_ | refine wG ?_ | refine wT ?_ | refine wM ?_ | refine wS ?_ | refine wP ?_ | refine wJ ?_ | refine wX ?_ | refine wY ?_))
      clear hF
      repeat refine evDone ?_
      try (show AW _ _ _ _ _)
      refine ⟨rfl, ?_⟩
      refine Fit.mk _ _ _ (by simp [conv2, newEmp, convs_refl, convs, conv]) (by simp [heapFit, newEmp, conv2s, conv2, convs_refl, convs, conv]) (by intro q hq; first | (simp at hq; done) | (simp at hq; omega) | (simp at hq; simp; omega))
    refine AW.cut (st' := mkS [(1, .str h), (2, .int .i64 now), (3, .int .i64 ttl), (4, .ptr 0 0 0), (9, .ptr 21 0 0), (10, .ptr 22 0 0), (11, .bool b), (12, .int .i64 e), (13, .ptr 138 0 0), (14, .ptr 139 0 0), (15, .bool b), (16, .int .i64 e), (17, .ptr 255 0 0)] [(0, ⟨2, true, [.agg [items xs, .int .i64 tok]]⟩), (21, ⟨2, true, [.agg [items ys, .int .i64 tk]]⟩), (22, ⟨13, true, [.agg [.int .i64 b1, .int .i64 b2, .int .i64 b3, .int .i64 b4, .int .i64 b5, .int .i64 b6, .str b7, .str b8, .str b9, .str b10, .int .i64 b11, .int .i64 b12, .int .i64 b13]]⟩), (138, ⟨2, true, [.agg [items ys, .int .i64 tk]]⟩), (139, ⟨13, true, [.agg [.int .i64 b1, .int .i64 b2, .int .i64 b3, .int .i64 b4, .int .i64 b5, .int .i64 b6, .str b7, .str b8, .str b9, .str b10, .int .i64 b11, .int .i64 b12, .int .i64 b13]]⟩), (255, ⟨13, true, [.agg [.int .i64 b1, .int .i64 b2, .int .i64 b3, .int .i64 b4, .int .i64 b5, .int .i64 b6, .str b7, .str b8, .str b9, .str b10, .int .i64 b11, .int .i64 b12, .int .i64 b13]]⟩)] 300) ?_ ?_
    · repeat refine AW.seq ?_
      refine AW.reg ?_
      have hF := True.intro
      repeat (first | refine wD1 ?_ | refine wD2 ?_ | refine wE1 ?_ | refine wE2 ?_ | (refine wE3 ?_; intro _) | (refine wE4 ?_; intro _) | refine wN ?_ | ((with_reducible show evIs _ (_ :: _) _ _); first | refine wQ ?_ | refine wF ?_ | refine wG ?_ | refine wT ?_ | refine wM ?_ | refine wS ?_ | refine wP ?_ | refine wJ ?_ | refine wX ?_ | refine wY ?_))
      clear hF
      repeat refine evDone ?_
      try (show AW _ _ _ _ _)
      refine ⟨rfl, ?_⟩
      refine Fit.mk _ _ _ (by simp [conv2, newEmp, convs_refl, convs, conv]) (by simp [heapFit, newEmp, conv2s, conv2, convs_refl, convs, conv]) (by intro q hq; first | (simp at hq; done) | (simp at hq; omega) | (simp at hq; simp; omega))
    refine AW.cut (st' := mkS [(8, .bool true)] [] 400) ?_ ?_
    · refine AW.draw ?_
      have hF := True.intro
      repeat (first | refine wD1 ?_ | refine wD2 ?_ | refine wE1 ?_ | refine wE2 ?_ | (refine wE3 ?_; intro _) | (refine wE4 ?_; intro _) | refine wN ?_ | ((with_reducible show evIs _ (_ :: _) _ _); first | refine wQ ?_ | refine wF ?_ | refine wG ?_ | refine wT ?_ | refine wM ?_ | refine wS ?_ | refine wP ?_ | refine wJ ?_ | refine wX ?_ | refine wY ?_))
      clear hF
      repeat refine evDone ?_
      try (show AW _ _ _ _ _)
      have hF := True.intro
      refine wC (hA := h12) ?_
      clear hF
      have hF := True.intro
      repeat (first | refine wD1 ?_ | refine wD2 ?_ | refine wE1 ?_ | refine wE2 ?_ | (refine wE3 ?_; intro _) | (refine wE4 ?_; intro _) | refine wN ?_ | ((with_reducible show evIs _ (_ :: _) _ _); first | refine wQ ?_ | refine wF ?_ | refine wG ?_ | refine wT ?_ | refine wM ?_ | refine wS ?_ | refine wP ?_ | refine wJ ?_ | refine wX ?_ | refine wY ?_))
      clear hF
      repeat refine evDone ?_
      try (show AW _ _ _ _ _)
      have hF := hfc
      refine wC (hA := h16) ?_
      clear hF
      have hF := True.intro
      repeat (first | refine wD1 ?_ | refine wD2 ?_ | refine wE1 ?_ | refine wE2 ?_ | (refine wE3 ?_; intro _) | (refine wE4 ?_; intro _) | refine wN ?_ | ((with_reducible show evIs _ (_ :: _) _ _); first | refine wQ ?_ | refine wF ?_ | refine wG ?_ | refine wT ?_ | refine wM ?_ | refine wS ?_ | refine wP ?_ | refine wJ ?_ | refine wX ?_ | refine wY ?_))
      clear hF
      repeat refine evDone ?_
      try (show AW _ _ _ _ _)
      have hF := hcl
      refine wC (hA := h11) ?_
      clear hF
      have hF := True.intro
      repeat (first | refine wD1 ?_ | refine wD2 ?_ | refine wE1 ?_ | refine wE2 ?_ | (refine wE3 ?_; intro _) | (refine wE4 ?_; intro _) | refine wN ?_ | ((with_reducible show evIs _ (_ :: _) _ _); first | refine wQ ?_ | refine wF ?_ | refine wG ?_ | refine wT ?_ | refine wM ?_ | refine wS ?_ | refine wP ?_ | refine wJ ?_ | refine wX ?_ | refine wY ?_))
      clear hF
      repeat refine evDone ?_
      try (show AW _ _ _ _ _)
      have hF := hfc
      refine wC (hA := h17) ?_
      clear hF
      have hF := True.intro
      repeat (first | refine wD1 ?_ | refine wD2 ?_ | refine wE1 ?_ | refine wE2 ?_ | (refine wE3 ?_; intro _) | (refine wE4 ?_; intro _) | refine wN ?_ | ((with_reducible show evIs _ (_ :: _) _ _); first | refine wQ ?_ | refine wF ?_ | refine wG ?_ | refine wT ?_ | refine wM ?_ | refine wS ?_ | refine wP ?_ | refine wJ ?_ | refine wX ?_ | refine wY ?_))
      clear hF
      repeat refine evDone ?_
      try (show AW _ _ _ _ _)
      have hF := True.intro
      refine wC (hA := h15) ?_
      clear hF
      have hF := True.intro
      repeat (first | refine wD1 ?_ | refine wD2 ?_ | refine wE1 ?_ | refine wE2 ?_ | (refine wE3 ?_; intro _) | (refine wE4 ?_; intro _) | refine wN ?_ | ((with_reducible show evIs _ (_ :: _) _ _); first | refine wQ ?_ | refine wF ?_ | refine wG ?_ | refine wT ?_ | refine wM ?_ | refine wS ?_ | refine wP ?_ | refine wJ ?_ | refine wX ?_ | refine wY ?_))
      clear hF
      repeat refine evDone ?_
      try (show AW _ _ _ _ _)
      have hF := True.intro
      refine wC (hA := works) ?_
      clear hF
      have hF := True.intro
      repeat (first | refine wD1 ?_ | refine wD2 ?_ | refine wE1 ?_ | refine wE2 ?_ | (refine wE3 ?_; intro _) | (refine wE4 ?_; intro _) | refine wN ?_ | ((with_reducible show evIs _ (_ :: _) _ _); first | refine wQ ?_ | refine wF ?_ | refine wG ?_ | refine wT ?_ | refine wM ?_ | refine wS ?_ | refine wP ?_ | refine wJ ?_ | refine wX ?_ | refine wY ?_))
      clear hF
      repeat refine evDone ?_
      try (show AW _ _ _ _ _)
      refine ⟨rfl, ?_⟩
      refine Fit.mk _ _ _ (by simp [conv2, newEmp, convs_refl, convs, conv]) (by simp [heapFit, newEmp, conv2s, conv2, convs_refl, convs, conv]) (by intro q hq; first | (simp at hq; done) | (simp at hq; omega) | (simp at hq; simp; omega))
    refine AW.ret (retI rfl ?_)
    simp [mkS, a4_res, resOk, resP, resV, ARes.op, R2s, R2, R1s, R1, closeOk, closeV]

theorem f5 (xs : List Item) (tok t now ttl : Int) : ACall Try.prog 5 [.agg [items xs, .int .i64 tok], .int .i64 t, .int .i64 now, .int .i64 ttl] (· = .bool true) := by
  refine a5_of (by simp) ?_
  repeat refine AW.seq ?_
  refine AW.reg ?_
  have hF := True.intro
  repeat (first | refine wD1 ?_ | refine wD2 ?_ | refine wE1 ?_ | refine wE2 ?_ | (refine wE3 ?_; intro _) | (refine wE4 ?_; intro _) | refine wN ?_ | ((with_reducible show evIs _ (_ :: _) _ _); first | refine wQ ?_ | refine wF ?_ | refine wG ?_ | refine wT ?_ | refine wM ?_ | refine wS ?_ | refine wP ?_ | refine wJ ?_ | refine wX ?_ | refine wY ?_))
  clear hF
  repeat refine evDone ?_
  try (show AW _ _ _ _ _)
  repeat refine AW.seq ?_
  refine AW.reg ?_
  have hF := True.intro
  repeat (first | refine wD1 ?_ | refine wD2 ?_ | refine wE1 ?_ | refine wE2 ?_ | (refine wE3 ?_; intro _) | (refine wE4 ?_; intro _) | refine wN ?_ | ((with_reducible show evIs _ (_ :: _) _ _); first | refine wQ ?_ | refine wF ?_ | refine wG ?_ | refine wT ?_ | refine wM ?_ | refine wS ?_ | refine wP ?_ | refine wJ ?_ | refine wX ?_ | refine wY ?_))
  clear hF
  repeat refine evDone ?_
  try (show AW _ _ _ _ _)
  have hF := True.intro
  refine wC (hA := f7 xs tok) ?_
  clear hF
  have hF := True.intro
  repeat (first | refine wD1 ?_ | refine wD2 ?_ | refine wE1 ?_ | refine wE2 ?_ | (refine wE3 ?_; intro _) | (refine wE4 ?_; intro _) | refine wN ?_ | ((with_reducible show evIs _ (_ :: _) _ _); first | refine wQ ?_ | refine wF ?_ | refine wG ?_ | refine wT ?_ | refine wM ?_ | refine wS ?_ | refine wP ?_ | refine wJ ?_ | refine wX ?_ | refine wY ?_))
  clear hF
  repeat refine evDone ?_
  try (show AW _ _ _ _ _)
  by_cases h1 : 1001 < (xs.length : Int)
  · repeat refine AW.seq ?_
    refine AW.condT (by simp [h1]) (by simp [h1]) ?_
    repeat refine AW.seq ?_
    refine AW.reg ?_
    have hF := True.intro
    repeat (first | refine wD1 ?_ | refine wD2 ?_ | refine wE1 ?_ | refine wE2 ?_ | (refine wE3 ?_; intro _) | (refine wE4 ?_; intro _) | refine wN ?_ | ((with_reducible show evIs _ (_ :: _) _ _); first | refine wQ ?_ | refine wF ?_ | refine wG ?_ | refine wT ?_ | refine wM ?_ | refine wS ?_ | refine wP ?_ | refine wJ ?_ | refine wX ?_ | refine wY ?_))
    clear hF
    repeat refine evDone ?_
    try (show AW _ _ _ _ _)
    have hF := True.intro
    refine wC (hA := works) ?_
    clear hF
    have hF := True.intro
    repeat (first | refine wD1 ?_ | refine wD2 ?_ | refine wE1 ?_ | refine wE2 ?_ | (refine wE3 ?_; intro _) | (refine wE4 ?_; intro _) | refine wN ?_ | ((with_reducible show evIs _ (_ :: _) _ _); first | refine wQ ?_ | refine wF ?_ | refine wG ?_ | refine wT ?_ | refine wM ?_ | refine wS ?_ | refine wP ?_ | refine wJ ?_ | refine wX ?_ | refine wY ?_))
    clear hF
    repeat refine evDone ?_
    try (show AW _ _ _ _ _)
    refine AW.ret (retI rfl ?_)
    simp [a5_res, resOk, resP, resV, ARes.op, R2s, R2, R1s, R1, closeOk, closeV]
  · repeat refine AW.seq ?_
    refine AW.condF (by simp [h1]) (by simp [h1]) ?_
    refine AW.skip ?_
    show AW _ _ _ _ _
    have hcl := clC_items xs
    have h11 := f11 xs tok (by omega)
    have h18 := f18 xs tok t (by omega)
    have h19 := f19 xs tok t (by omega)
    have h20 := f20 xs tok t now ttl (by omega)
    have h21 := f21 xs tok t now ttl (by omega)
    have h22 := f22 xs tok t (by omega)
    have h23 := f23 xs tok t (by omega)
    obtain ⟨y1, k1, e1, hy1, hs1⟩ := ack_shape xs tok t (by omega)
    obtain ⟨y2, k2, e2, hy2, hs2⟩ := ext_shape xs tok t now ttl (by omega)
    obtain ⟨y3, k3, e3, hy3, hs3⟩ := ret_shape xs tok t (by omega)
    have h12a := f12 y1 k1 (by omega)
    have h12b := f12 y2 k2 (by omega)
    have h12c := f12 y3 k3 (by omega)
    unfold qq at hs1 hs2 hs3
    generalize ackR xs tok t = A1 at h18 h19 hs1
    generalize extR xs tok t now ttl = A2 at h20 h21 hs2
    generalize retR xs tok t = A3 at h22 h23 hs3
    refine AW.cut (st' := mkS [(1, .int .i64 t), (2, .int .i64 now), (3, .int .i64 ttl), (4, .ptr 0 0 0), (9, .ptr 12 0 0), (10, .int .i64 e1)] [(0, ⟨2, true, [.agg [items xs, .int .i64 tok]]⟩), (12, ⟨2, true, [.agg [items y1, .int .i64 k1]]⟩)] 100) ?_ ?_
    · repeat refine AW.seq ?_
      refine AW.reg ?_
      have hF := True.intro
      repeat (first | refine wD1 ?_ | refine wD2 ?_ | refine wE1 ?_ | refine wE2 ?_ | (refine wE3 ?_; intro _) | (refine wE4 ?_; intro _) | refine wN ?_ | ((with_reducible show evIs _ (_ :: _) _ _); first | refine wQ ?_ | refine wF ?_ | refine wG ?_ | refine wT ?_ | refine wM ?_ | refine wS ?_ | refine wP ?_ | refine wJ ?_ | refine wX ?_ | refine wY ?_))
      clear hF
      repeat refine evDone ?_
      try (show AW _ _ _ _ _)
      have hF := hs1
      refine wC (hA := h18) ?_
      clear hF
      have hF := True.intro
      repeat (first | refine wD1 ?_ | refine wD2 ?_ | refine wE1 ?_ | refine wE2 ?_ | (refine wE3 ?_; intro _) | (refine wE4 ?_; intro _) | refine wN ?_ | ((with_reducible show evIs _ (_ :: _) _ _); first | refine wQ ?_ | refine wF ?_ | refine wG ?_ | refine wT ?_ | refine wM ?_ | refine wS ?_ | refine wP ?_ | refine wJ ?_ | refine wX ?_ | refine wY ?_))
      clear hF
      repeat refine evDone ?_
      try (show AW _ _ _ _ _)
      refine ⟨rfl, ?_⟩
      refine Fit.mk _ _ _ (by simp [conv2, newEmp, convs_refl, convs, conv]) (by simp [heapFit, newEmp, conv2s, conv2, convs_refl, convs, conv]) (by intro q hq; first | (simp at hq; done) | (simp at hq; omega) | (simp at hq; simp; omega))
    refine AW.cut (st' := mkS [(1, .int .i64 t), (2, .int .i64 now), (3, .int .i64 ttl), (4, .ptr 0 0 0), (9, .ptr 12 0 0), (10, .int .i64 e1), (11, .ptr 122 0 0), (12, .int .i64 e1)] [(0, ⟨2, true, [.agg [items xs, .int .i64 tok]]⟩), (12, ⟨2, true, [.agg [items y1, .int .i64 k1]]⟩), (122, ⟨2, true, [.agg [items y1, .int .i64 k1]]⟩)] 200) ?_ ?_
    · repeat refine AW.seq ?_
      refine AW.reg ?_
      have hF := True.intro
      repeat (first | refine wD1 ?_ | refine wD2 ?_ | refine wE1 ?_ | refine wE2 ?_ | (refine wE3 ?_; intro _) | (refine wE4 ?_; intro _) | refine wN ?_ | ((with_reducible show evIs _ (_ :: _) _ _); first | refine wQ ?_ | refine wF ?_ | refine wG ?_ | refine wT ?_ | refine wM ?_ | refine wS ?_ | refine wP ?_ | refine wJ ?_ | refine wX ?_ | refine wY ?_))
      clear hF
      repeat refine evDone ?_
      try (show AW _ _ _ _ _)
      have hF := hcl
      refine wC (hA := h11) ?_
      clear hF
      have hF := True.intro
      repeat (first | refine wD1 ?_ | refine wD2 ?_ | refine wE1 ?_ | refine wE2 ?_ | (refine wE3 ?_; intro _) | (refine wE4 ?_; intro _) | refine wN ?_ | ((with_reducible show evIs _ (_ :: _) _ _); first | refine wQ ?_ | refine wF ?_ | refine wG ?_ | refine wT ?_ | refine wM ?_ | refine wS ?_ | refine wP ?_ | refine wJ ?_ | refine wX ?_ | refine wY ?_))
      clear hF
      repeat refine evDone ?_
      try (show AW _ _ _ _ _)
      have hF := hs1
      refine wC (hA := h19) ?_
      clear hF
      have hF := True.intro
      repeat (first | refine wD1 ?_ | refine wD2 ?_ | refine wE1 ?_ | refine wE2 ?_ | (refine wE3 ?_; intro _) | (refine wE4 ?_; intro _) | refine wN ?_ | ((with_reducible show evIs _ (_ :: _) _ _); first | refine wQ ?_ | refine wF ?_ | refine wG ?_ | refine wT ?_ | refine wM ?_ | refine wS ?_ | refine wP ?_ | refine wJ ?_ | refine wX ?_ | refine wY ?_))
      clear hF
      repeat refine evDone ?_
      try (show AW _ _ _ _ _)
      refine ⟨rfl, ?_⟩
      refine Fit.mk _ _ _ (by simp [conv2, newEmp, convs_refl, convs, conv]) (by simp [heapFit, newEmp, conv2s, conv2, convs_refl, convs, conv]) (by intro q hq; first | (simp at hq; done) | (simp at hq; omega) | (simp at hq; simp; omega))
    refine AW.cut (st' := mkS [(1, .int .i64 t), (2, .int .i64 now), (3, .int .i64 ttl), (4, .ptr 0 0 0), (9, .ptr 12 0 0), (10, .int .i64 e1), (11, .ptr 122 0 0), (12, .int .i64 e1), (13, .ptr 233 0 0), (14, .int .i64 e2)] [(0, ⟨2, true, [.agg [items xs, .int .i64 tok]]⟩), (12, ⟨2, true, [.agg [items y1, .int .i64 k1]]⟩), (122, ⟨2, true, [.agg [items y1, .int .i64 k1]]⟩), (233, ⟨2, true, [.agg [items y2, .int .i64 k2]]⟩)] 300) ?_ ?_
    · repeat refine AW.seq ?_
      refine AW.reg ?_
      have hF := True.intro
      repeat (first | refine wD1 ?_ | refine wD2 ?_ | refine wE1 ?_ | refine wE2 ?_ | (refine wE3 ?_; intro _) | (refine wE4 ?_; intro _) | refine wN ?_ | ((with_reducible show evIs _ (_ :: _) _ _); first | refine wQ ?_ | refine wF ?_ | refine wG ?_ | refine wT ?_ | refine wM ?_ | refine wS ?_ | refine wP ?_ | refine wJ ?_ | refine wX ?_ | refine wY ?_))
      clear hF
      repeat refine evDone ?_
      try (show AW _ _ _ _ _)
      have hF := hs2
      refine wC (hA := h20) ?_
      clear hF
      have hF := True.intro
      repeat (first | refine wD1 ?_ | refine wD2 ?_ | refine wE1 ?_ | refine wE2 ?_ | (refine wE3 ?_; intro _) | (refine wE4 ?_; intro _) | refine wN ?_ | ((with_reducible show evIs _ (_ :: _) _ _); first | refine wQ ?_ | refine wF ?_ | refine wG ?_ | refine wT ?_ | refine wM ?_ | refine wS ?_ | refine wP ?_ | refine wJ ?_ | refine wX ?_ | refine wY ?_))
      clear hF
      repeat refine evDone ?_
      try (show AW _ _ _ _ _)
      refine ⟨rfl, ?_⟩
      refine Fit.mk _ _ _ (by simp [conv2, newEmp, convs_refl, convs, conv]) (by simp [heapFit, newEmp, conv2s, conv2, convs_refl, convs, conv]) (by intro q hq; first | (simp at hq; done) | (simp at hq; omega) | (simp at hq; simp; omega))
    refine AW.cut (st' := mkS [(1, .int .i64 t), (2, .int .i64 now), (3, .int .i64 ttl), (4, .ptr 0 0 0), (9, .ptr 12 0 0), (10, .int .i64 e1), (11, .ptr 122 0 0), (12, .int .i64 e1), (13, .ptr 233 0 0), (14, .int .i64 e2), (15, .ptr 345 0 0), (16, .int .i64 e2)] [(0, ⟨2, true, [.agg [items xs, .int .i64 tok]]⟩), (12, ⟨2, true, [.agg [items y1, .int .i64 k1]]⟩), (122, ⟨2, true, [.agg [items y1, .int .i64 k1]]⟩), (233, ⟨2, true, [.agg [items y2, .int .i64 k2]]⟩), (345, ⟨2, true, [.agg [items y2, .int .i64 k2]]⟩)] 400) ?_ ?_
    · repeat refine AW.seq ?_
      refine AW.reg ?_
      have hF := True.intro
      repeat (first | refine wD1 ?_ | refine wD2 ?_ | refine wE1 ?_ | refine wE2 ?_ | (refine wE3 ?_; intro _) | (refine wE4 ?_; intro _) | refine wN ?_ | ((with_reducible show evIs _ (_ :: _) _ _); first | refine wQ ?_ | refine wF ?_ | refine wG ?_ | refine wT ?_ | refine wM ?_ | refine wS ?_ | refine wP ?_ | refine wJ ?_ | refine wX ?_ | refine wY ?_))
      clear hF
      repeat refine evDone ?_
      try (show AW _ _ _ _ _)
      have hF := hcl
      refine wC (hA := h11) ?_
      clear hF
      have hF := True.intro
      repeat (first | refine wD1 ?_ | refine wD2 ?_ | refine wE1 ?_ | refine wE2 ?_ | (refine wE3 ?_; intro _) | (refine wE4 ?_; intro _) | refine wN ?_ | ((with_reducible show evIs _ (_ :: _) _ _); first | refine wQ ?_ | refine wF ?_ | refine wG ?_ | refine wT ?_ | refine wM ?_ | refine wS ?_ | refine wP ?_ | refine wJ ?_ | refine wX ?_ | refine wY ?_))
      clear hF
      repeat refine evDone ?_
      try (show AW _ _ _ _ _)
      have hF := hs2
      refine wC (hA := h21) ?_
      clear hF
      have hF := True.intro
      repeat (first | refine wD1 ?_ | refine wD2 ?_ | refine wE1 ?_ | refine wE2 ?_ | (refine wE3 ?_; intro _) | (refine wE4 ?_; intro _) | refine wN ?_ | ((with_reducible show evIs _ (_ :: _) _ _); first | refine wQ ?_ | refine wF ?_ | refine wG ?_ | refine wT ?_ | refine wM ?_ | refine wS ?_ | refine wP ?_ | refine wJ ?_ | refine wX ?_ | refine wY ?_))
      clear hF
      repeat refine evDone ?_
      try (show AW _ _ _ _ _)
      refine ⟨rfl, ?_⟩
      refine Fit.mk _ _ _ (by simp [conv2, newEmp, convs_refl, convs, conv]) (by simp [heapFit, newEmp, conv2s, conv2, convs_refl, convs, conv]) (by intro q hq; first | (simp at hq; done) | (simp at hq; omega) | (simp at hq; simp; omega))
    refine AW.cut (st' := mkS [(1, .int .i64 t), (2, .int .i64 now), (3, .int .i64 ttl), (4, .ptr 0 0 0), (9, .ptr 12 0 0), (10, .int .i64 e1), (11, .ptr 122 0 0), (12, .int .i64 e1), (13, .ptr 233 0 0), (14, .int .i64 e2), (15, .ptr 345 0 0), (16, .int .i64 e2), (17, .ptr 454 0 0), (18, .int .i64 e3)] [(0, ⟨2, true, [.agg [items xs, .int .i64 tok]]⟩), (12, ⟨2, true, [.agg [items y1, .int .i64 k1]]⟩), (122, ⟨2, true, [.agg [items y1, .int .i64 k1]]⟩), (233, ⟨2, true, [.agg [items y2, .int .i64 k2]]⟩), (345, ⟨2, true, [.agg [items y2, .int .i64 k2]]⟩), (454, ⟨2, true, [.agg [items y3, .int .i64 k3]]⟩)] 500) ?_ ?_
    · repeat refine AW.seq ?_
      refine AW.reg ?_
      have hF := True.intro
      repeat (first | refine wD1 ?_ | refine wD2 ?_ | refine wE1 ?_ | refine wE2 ?_ | (refine wE3 ?_; intro _) | (refine wE4 ?_; intro _) | refine wN ?_ | ((with_reducible show evIs _ (_ :: _) _ _); first | refine wQ ?_ | refine wF ?_ | refine wG ?_ | refine wT ?_ | refine wM ?_ | refine wS ?_ | refine wP ?_ | refine wJ ?_ | refine wX ?_ | refine wY ?_))
      clear hF
      repeat refine evDone ?_
      try (show AW _ _ _ _ _)
      have hF := hs3
      refine wC (hA := h22) ?_
      clear hF
      have hF := True.intro
      repeat (first | refine wD1 ?_ | refine wD2 ?_ | refine wE1 ?_ | refine wE2 ?_ | (refine wE3 ?_; intro _) | (refine wE4 ?_; intro _) | refine wN ?_ | ((with_reducible show evIs _ (_ :: _) _ _); first | refine wQ ?_ | refine wF ?_ | refine wG ?_ | refine wT ?_ | refine wM ?_ | refine wS ?_ | refine wP ?_ | refine wJ ?_ | refine wX ?_ | refine wY ?_))
      clear hF
      repeat refine evDone ?_
      try (show AW _ _ _ _ _)
      refine ⟨rfl, ?_⟩
      refine Fit.mk _ _ _ (by simp [conv2, newEmp, convs_refl, convs, conv]) (by simp [heapFit, newEmp, conv2s, conv2, convs_refl, convs, conv]) (by intro q hq; first | (simp at hq; done) | (simp at hq; omega) | (simp at hq; simp; omega))
    refine AW.cut (st' := mkS [(1, .int .i64 t), (2, .int .i64 now), (3, .int .i64 ttl), (4, .ptr 0 0 0), (9, .ptr 12 0 0), (10, .int .i64 e1), (11, .ptr 122 0 0), (12, .int .i64 e1), (13, .ptr 233 0 0), (14, .int .i64 e2), (15, .ptr 345 0 0), (16, .int .i64 e2), (17, .ptr 454 0 0), (18, .int .i64 e3), (19, .ptr 564 0 0), (20, .int .i64 e3)] [(0, ⟨2, true, [.agg [items xs, .int .i64 tok]]⟩), (12, ⟨2, true, [.agg [items y1, .int .i64 k1]]⟩), (122, ⟨2, true, [.agg [items y1, .int .i64 k1]]⟩), (233, ⟨2, true, [.agg [items y2, .int .i64 k2]]⟩), (345, ⟨2, true, [.agg [items y2, .int .i64 k2]]⟩), (454, ⟨2, true, [.agg [items y3, .int .i64 k3]]⟩), (564, ⟨2, true, [.agg [items y3, .int .i64 k3]]⟩)] 600) ?_ ?_
    · repeat refine AW.seq ?_
      refine AW.reg ?_
      have hF := True.intro
      repeat (first | refine wD1 ?_ | refine wD2 ?_ | refine wE1 ?_ | refine wE2 ?_ | (refine wE3 ?_; intro _) | (refine wE4 ?_; intro _) | refine wN ?_ | ((with_reducible show evIs _ (_ :: _) _ _); first | refine wQ ?_ | refine wF ?_ | refine wG ?_ | refine wT ?_ | refine wM ?_ | refine wS ?_ | refine wP ?_ | refine wJ ?_ | refine wX ?_ | refine wY ?_))
      clear hF
      repeat refine evDone ?_
      try (show AW _ _ _ _ _)
      have hF := hcl
      refine wC (hA := h11) ?_
      clear hF
      have hF := True.intro
      repeat (first | refine wD1 ?_ | refine wD2 ?_ | refine wE1 ?_ | refine wE2 ?_ | (refine wE3 ?_; intro _) | (refine wE4 ?_; intro _) | refine wN ?_ | ((with_reducible show evIs _ (_ :: _) _ _); first | refine wQ ?_ | refine wF ?_ | refine wG ?_ | refine wT ?_ | refine wM ?_ | refine wS ?_ | refine wP ?_ | refine wJ ?_ | refine wX ?_ | refine wY ?_))
      clear hF
      repeat refine evDone ?_
      try (show AW _ _ _ _ _)
      have hF := hs3
      refine wC (hA := h23) ?_
      clear hF
      have hF := True.intro
      repeat (first | refine wD1 ?_ | refine wD2 ?_ | refine wE1 ?_ | refine wE2 ?_ | (refine wE3 ?_; intro _) | (refine wE4 ?_; intro _) | refine wN ?_ | ((with_reducible show evIs _ (_ :: _) _ _); first | refine wQ ?_ | refine wF ?_ | refine wG ?_ | refine wT ?_ | refine wM ?_ | refine wS ?_ | refine wP ?_ | refine wJ ?_ | refine wX ?_ | refine wY ?_))
      clear hF
      repeat refine evDone ?_
      try (show AW _ _ _ _ _)
      refine ⟨rfl, ?_⟩
      refine Fit.mk _ _ _ (by simp [conv2, newEmp, convs_refl, convs, conv]) (by simp [heapFit, newEmp, conv2s, conv2, convs_refl, convs, conv]) (by intro q hq; first | (simp at hq; done) | (simp at hq; omega) | (simp at hq; simp; omega))
    repeat refine AW.seq ?_
    refine AW.reg ?_
    have hF := True.intro
    repeat (first | refine wD1 ?_ | refine wD2 ?_ | refine wE1 ?_ | refine wE2 ?_ | (refine wE3 ?_; intro _) | (refine wE4 ?_; intro _) | refine wN ?_ | ((with_reducible show evIs _ (_ :: _) _ _); first | refine wQ ?_ | refine wF ?_ | refine wG ?_ | refine wT ?_ | refine wM ?_ | refine wS ?_ | refine wP ?_ | refine wJ ?_ | refine wX ?_ | refine wY ?_))
    clear hF
    repeat refine evDone ?_
    try (show AW _ _ _ _ _)
    have hF := True.intro
    refine wC (hA := h12a) ?_
    clear hF
    have hF := True.intro
    repeat (first | refine wD1 ?_ | refine wD2 ?_ | refine wE1 ?_ | refine wE2 ?_ | (refine wE3 ?_; intro _) | (refine wE4 ?_; intro _) | refine wN ?_ | ((with_reducible show evIs _ (_ :: _) _ _); first | refine wQ ?_ | refine wF ?_ | refine wG ?_ | refine wT ?_ | refine wM ?_ | refine wS ?_ | refine wP ?_ | refine wJ ?_ | refine wX ?_ | refine wY ?_))
    clear hF
    repeat refine evDone ?_
    try (show AW _ _ _ _ _)
    have hF := True.intro
    refine wC (hA := h12b) ?_
    clear hF
    have hF := True.intro
    repeat (first | refine wD1 ?_ | refine wD2 ?_ | refine wE1 ?_ | refine wE2 ?_ | (refine wE3 ?_; intro _) | (refine wE4 ?_; intro _) | refine wN ?_ | ((with_reducible show evIs _ (_ :: _) _ _); first | refine wQ ?_ | refine wF ?_ | refine wG ?_ | refine wT ?_ | refine wM ?_ | refine wS ?_ | refine wP ?_ | refine wJ ?_ | refine wX ?_ | refine wY ?_))
    clear hF
    repeat refine evDone ?_
    try (show AW _ _ _ _ _)
    have hF := True.intro
    refine wC (hA := h12c) ?_
    clear hF
    have hF := True.intro
    repeat (first | refine wD1 ?_ | refine wD2 ?_ | refine wE1 ?_ | refine wE2 ?_ | (refine wE3 ?_; intro _) | (refine wE4 ?_; intro _) | refine wN ?_ | ((with_reducible show evIs _ (_ :: _) _ _); first | refine wQ ?_ | refine wF ?_ | refine wG ?_ | refine wT ?_ | refine wM ?_ | refine wS ?_ | refine wP ?_ | refine wJ ?_ | refine wX ?_ | refine wY ?_))
    clear hF
    repeat refine evDone ?_
    try (show AW _ _ _ _ _)
    have hF := True.intro
    refine wC (hA := works) ?_
    clear hF
    have hF := True.intro
    repeat (first | refine wD1 ?_ | refine wD2 ?_ | refine wE1 ?_ | refine wE2 ?_ | (refine wE3 ?_; intro _) | (refine wE4 ?_; intro _) | refine wN ?_ | ((with_reducible show evIs _ (_ :: _) _ _); first | refine wQ ?_ | refine wF ?_ | refine wG ?_ | refine wT ?_ | refine wM ?_ | refine wS ?_ | refine wP ?_ | refine wJ ?_ | refine wX ?_ | refine wY ?_))
    clear hF
    repeat refine evDone ?_
    try (show AW _ _ _ _ _)
    refine AW.ret (retI rfl ?_)
    simp [a5_res, resOk, resP, resV, ARes.op, R2s, R2, R1s, R1, closeOk, closeV]
end Go.Proofs.Ytloccbmiojhabaa

set_option linter.unusedSimpArgs false
set_option linter.unusedVariables false
namespace Go.Proofs.Ytloccbmiojhabaa
open Go Go.Amb Go.RowKit
section
variable {H : Type} {enc : TypeId × Value → H} {w : World} {n : Nat} {cs : List Value} {x : DataW H × List MemPlace}
theorem tell_task (h : DataW.trod enc Try.prog w 0 (fun _ => true) true n 26 cs = some x) : ∃ u : Task, Tell w (cellsOf (Task.av u)) cs ∧ (cellsOf (Task.av u)).length = Try.prog.cellsOf 26 ∧ True := by
  obtain ⟨css, ds, m, rfl, hx, rfl, he⟩ := tell_fields Try.underlying26 (by kernel_rfl) h
  obtain ⟨c0, css, d0, ds, rfl, rfl, ⟨p0, h0⟩, he⟩ := each_cons he
  obtain ⟨c1, css, d1, ds, rfl, rfl, ⟨p1, h1⟩, he⟩ := each_cons he
  obtain ⟨c2, css, d2, ds, rfl, rfl, ⟨p2, h2⟩, he⟩ := each_cons he
  obtain ⟨c3, css, d3, ds, rfl, rfl, ⟨p3, h3⟩, he⟩ := each_cons he
  obtain ⟨c4, css, d4, ds, rfl, rfl, ⟨p4, h4⟩, he⟩ := each_cons he
  obtain ⟨c5, css, d5, ds, rfl, rfl, ⟨p5, h5⟩, he⟩ := each_cons he
  obtain ⟨c6, css, d6, ds, rfl, rfl, ⟨p6, h6⟩, he⟩ := each_cons he
  obtain ⟨c7, css, d7, ds, rfl, rfl, ⟨p7, h7⟩, he⟩ := each_cons he
  obtain ⟨c8, css, d8, ds, rfl, rfl, ⟨p8, h8⟩, he⟩ := each_cons he
  obtain ⟨rfl, rfl⟩ := each_nil he
  obtain ⟨i0, t0, _, _⟩ := tell_int Try.underlying3 h0
  obtain ⟨i1, t1, _, _⟩ := tell_int Try.underlying3 h1
  obtain ⟨i2, t2, _, _⟩ := tell_int Try.underlying3 h2
  obtain ⟨i3, t3, _, _⟩ := tell_int Try.underlying3 h3
  obtain ⟨i4, t4, _, _⟩ := tell_int Try.underlying3 h4
  obtain ⟨i5, t5, _, _⟩ := tell_int Try.underlying3 h5
  obtain ⟨i6, t6, _, _⟩ := tell_str Try.underlying9 h6
  obtain ⟨i7, t7, _, _⟩ := tell_str Try.underlying9 h7
  obtain ⟨i8, t8, _, _⟩ := tell_str Try.underlying9 h8
  refine ⟨⟨i0, i1, i2, i3, i4, i5, i6, i7, i8⟩, ?_, by simp [Task.av, Task.cells]; kernel_rfl, trivial⟩
  have := t0.app (t1.app (t2.app (t3.app (t4.app (t5.app (t6.app (t7.app (t8))))))))
  simpa [Task.av, Task.cells] using this
theorem tell_item (h : DataW.trod enc Try.prog w 0 (fun _ => true) true n 41 cs = some x) : ∃ u : Item, Tell w (cellsOf (Item.av u)) cs ∧ (cellsOf (Item.av u)).length = Try.prog.cellsOf 41 ∧ True := by
  obtain ⟨css, ds, m, rfl, hx, rfl, he⟩ := tell_fields Try.underlying41 (by kernel_rfl) h
  obtain ⟨c0, css, d0, ds, rfl, rfl, ⟨p0, h0⟩, he⟩ := each_cons he
  obtain ⟨c1, css, d1, ds, rfl, rfl, ⟨p1, h1⟩, he⟩ := each_cons he
  obtain ⟨c2, css, d2, ds, rfl, rfl, ⟨p2, h2⟩, he⟩ := each_cons he
  obtain ⟨c3, css, d3, ds, rfl, rfl, ⟨p3, h3⟩, he⟩ := each_cons he
  obtain ⟨c4, css, d4, ds, rfl, rfl, ⟨p4, h4⟩, he⟩ := each_cons he
  obtain ⟨rfl, rfl⟩ := each_nil he
  obtain ⟨i0, t0, _⟩ := tell_task h0
  obtain ⟨i1, t1, _, _⟩ := tell_str Try.underlying9 h1
  obtain ⟨i2, t2, _, _⟩ := tell_int Try.underlying3 h2
  obtain ⟨i3, t3, _, _⟩ := tell_int Try.underlying3 h3
  obtain ⟨i4, t4, _, _⟩ := tell_int Try.underlying3 h4
  refine ⟨⟨i0, i1, i2, i3, i4⟩, ?_, by simp [Item.av]; kernel_rfl, trivial⟩
  have := t0.app (t1.app (t2.app (t3.app (t4))))
  simpa [Item.av, Task.av, Task.cells] using this

theorem tell_queue {v : Value} {d : DataW H} {p : List MemPlace} (h : DataW.Trod enc Try.prog w 0 (fun _ => true) true 24 v d p) : ∃ (xs : List Item) (tok : Int), Tell w [items xs, .int .i64 tok] v.cells.toList := by
  obtain ⟨n, h⟩ := h
  obtain ⟨css, ds, m, rfl, hx, hc, he⟩ := tell_fields Try.underlying24 (by kernel_rfl) h
  obtain ⟨c0, css, d0, ds, rfl, rfl, ⟨p0, h0⟩, he⟩ := each_cons he
  obtain ⟨c1, css, d1, ds, rfl, rfl, ⟨p1, h1⟩, he⟩ := each_cons he
  obtain ⟨rfl, rfl⟩ := each_nil he
  obtain ⟨xs, t0, _⟩ := tell_slice Try.underlying22 (by decide +kernel) Item.av (fun _ _ => True) h0 (fun m _ cs x hx => tell_item hx)
  obtain ⟨i1, t1, _, _⟩ := tell_int Try.underlying3 h1
  refine ⟨xs, i1, ?_⟩
  have := t0.app t1
  rw [hc]
  simpa [items] using this
theorem tell_taskv {v : Value} {d : DataW H} {p : List MemPlace} (h : DataW.Trod enc Try.prog w 0 (fun _ => true) true 26 v d p) : ∃ t : Task, Tell w t.cells v.cells.toList := by
  obtain ⟨n, h⟩ := h
  obtain ⟨t, a, _⟩ := tell_task h
  exact ⟨t, by simpa [Task.av, cellsOf] using a⟩
end
end Go.Proofs.Ytloccbmiojhabaa
