/- Chapter 37, twelfth part: what the queue's functions compute, in plain Lean: the items stay the same up to their order. -/
import Derived.Test.YtljahaeachdjmaaS2

set_option linter.unusedSimpArgs false
set_option linter.unusedVariables false
namespace Go.Proofs.Ytljahaeachdjmaa
open Go Go.Amb Go.IntWalk

theorem it_eq {xs : List Item} {i : Nat} (h : i < xs.length) : it xs i = xs[i] := by simp [it, h]
theorem swap_perm {xs : List Item} {i j : Nat} (hi : i < xs.length) (hj : j < xs.length) : (swap xs i j).Perm xs := by
  unfold swap
  rw [it_eq hi, it_eq hj]
  exact List.set_set_perm hi hj
theorem upF_perm : ∀ (k : Nat) (xs : List Item) (i : Nat), i < xs.length → (upF k xs i).Perm xs
  | 0, xs, _, _ => List.Perm.refl _
  | k + 1, xs, i, h => by
    unfold upF
    split
    · exact List.Perm.refl _
    · split
      · exact (upF_perm k _ _ (by rw [swap_len]; omega)).trans (swap_perm h (by omega))
      · exact List.Perm.refl _
theorem least1_lt {xs : List Item} {i : Nat} (h : i < xs.length) : least1 xs i < xs.length := by
  unfold least1
  split
  · rename_i h1; exact h1.1
  · exact h
theorem leastF_lt {xs : List Item} {i : Nat} (h : i < xs.length) : leastF xs i < xs.length := by
  unfold leastF
  split
  · rename_i h1; exact h1.1
  · exact least1_lt h
theorem downF_perm : ∀ (k : Nat) (xs : List Item) (i : Nat), i < xs.length → (downF k xs i).Perm xs
  | 0, xs, _, _ => List.Perm.refl _
  | k + 1, xs, i, h => by
    unfold downF
    split
    · exact List.Perm.refl _
    · exact (downF_perm k _ _ (by rw [swap_len]; exact leastF_lt h)).trans (swap_perm h (leastF_lt h))
theorem cutF_perm {xs : List Item} {i m : Nat} (hm : xs.length = m + 1) (hi : i ≤ m) : (it xs i :: cutF xs i m).Perm xs := by
  have h1 : swap xs i m = cutF xs i m ++ [it xs i] := by
    have hs : (swap xs i m).length = m + 1 := by rw [swap_len, hm]
    have h2 : swap xs i m = (swap xs i m).take m ++ (swap xs i m).drop m := (List.take_append_drop _ _).symm
    rw [h2]
    congr 1
    · simp [swap, cutF, List.take_set_of_le]
    · have : (swap xs i m).drop m = [(swap xs i m)[m]'(by omega)] := by
        rw [List.drop_eq_getElem_cons (by omega)]
        simp [List.drop_eq_nil_of_le, hs]
      rw [this]
      simp [swap]
  have h3 := swap_perm (xs := xs) (i := i) (j := m) (by omega) (by omega)
  rw [h1] at h3
  exact (List.perm_append_singleton _ _).symm.trans h3
theorem removeF_perm {xs : List Item} {i m : Nat} (hm : xs.length = m + 1) (hi : i ≤ m) : (it xs i :: removeF xs i m).Perm xs := by
  unfold removeF
  have hc := cutF_len hm i
  split
  · refine (List.Perm.cons _ ?_).trans (cutF_perm hm hi)
    exact (downF_perm _ _ _ (by rw [upF_len, hc]; omega)).trans (upF_perm _ _ _ (by omega))
  · exact cutF_perm hm hi
theorem popF_all : ∀ (k : Nat) (xs : List Item) (now : Int), xs.length < k → (∀ x ∈ xs, x.due ≤ now) → (popF k xs now).2 = [] ∧ (popF k xs now).1.Perm xs
  | 0, xs, _, h, _ => by omega
  | k + 1, xs, now, h, hd => by
    unfold popF
    by_cases h0 : 0 < xs.length
    · have h1 : (it xs 0).due ≤ now := hd _ (by rw [it_eq h0]; exact List.getElem_mem h0)
      have hm : xs.length = (xs.length - 1) + 1 := by omega
      have hp := removeF_perm (i := 0) hm (by omega)
      have hr := popF_all k (removeF xs 0 (xs.length - 1)) now (by rw [removeF_len hm]; omega) (fun x hx => hd x (hp.subset (List.mem_cons_of_mem _ hx)))
      rw [if_pos ⟨h0, h1⟩]
      exact ⟨hr.1, (hr.2.cons _).trans hp⟩
    · have : xs = [] := List.eq_nil_of_length_eq_zero (by omega)
      subst this
      simp
theorem addF_new {xs : List Item} {x : Item} (h : ∀ y ∈ xs, ¬ y.id = x.id) : (addF xs x).1.Perm (x :: xs) := by
  have hn : xs.findIdx? (fun y => y.id == x.id) = none := by
    rw [List.findIdx?_eq_none_iff]
    intro y hy
    simpa using h y hy
  have hi : idx xs (fun y => y.id == x.id) = -1 := by simp [idx, hn]
  unfold addF
  rw [hi]
  simp only [show ¬ (0 : Int) ≤ -1 by omega, if_false]
  exact (upF_perm _ _ _ (by simp)).trans (List.perm_append_singleton _ _)
theorem fillF_perm {l : List Item} (hd : Dist l l.length) : ∀ i, i ≤ l.length → (fillF [] (l.take i)).Perm (l.take i)
  | 0, _ => by simp [fillF]
  | i + 1, h => by
    have ih := fillF_perm hd i (by omega)
    have hx : l[i]? = some (l[i]'(by omega)) := List.getElem?_eq_getElem (by omega)
    rw [fillF_step l i _ [] hx]
    refine (addF_new (fun y hy => ?_)).trans ((ih.cons _).trans ?_)
    · have hy2 := ih.subset hy
      obtain ⟨j, hj, rfl⟩ := List.getElem_of_mem hy2
      have hj2 : j < i := by simp at hj; omega
      rw [List.getElem_take]
      exact fun e => hd i j hj2 (by omega) _ _ hx (List.getElem?_eq_getElem (by omega)) e.symm
    · rw [List.take_add_one, hx]
      exact (List.perm_append_singleton _ _).symm
theorem dist_mem {l : List Item} (hd : Dist l l.length) {x y : Item} (hx : x ∈ l) (hy : y ∈ l) (h : x.id = y.id) : x = y := by
  obtain ⟨i, hi, rfl⟩ := List.getElem_of_mem hx
  obtain ⟨j, hj, rfl⟩ := List.getElem_of_mem hy
  rcases Nat.lt_trichotomy i j with hij | rfl | hij
  · exact absurd h.symm (hd j i hij hj _ _ (List.getElem?_eq_getElem hj) (List.getElem?_eq_getElem hi))
  · rfl
  · exact absurd h (hd i j hij hi _ _ (List.getElem?_eq_getElem hi) (List.getElem?_eq_getElem hj))
theorem dist_nodup {l : List Item} (hd : Dist l l.length) : (l.map Item.id).Nodup := by
  rw [List.nodup_iff_pairwise_ne, List.pairwise_iff_getElem]
  intro i j hi hj hij
  simp only [List.getElem_map]
  simp only [List.length_map] at hi hj
  exact fun e => hd j i hij hj _ _ (List.getElem?_eq_getElem hj) (List.getElem?_eq_getElem hi) e.symm
/-- The law: a canceled item is not returned, all others are. -/
theorem cancel_law {l : List Item} (hd : Dist l l.length) (id now : Int) (hmax : ∀ x ∈ l, x.due ≤ now) (c : List Item × Bool) (hc : c = cancelF (fillF [] l) id) (p : List Item × List Item) (hp : p = popF (c.1.length + 1) c.1 now) :
    p.2 = [] ∧ (p.1.length : Int) = (if c.2 then (l.length : Int) - 1 else l.length) ∧ ∀ x ∈ l, decide (x ∈ p.1) = !(x.id == id) := by
  have hf := fillF_perm hd l.length (Nat.le_refl _)
  rw [List.take_length] at hf
  generalize fillF [] l = xs at hf hc
  unfold cancelF at hc
  cases h : xs.findIdx? (fun y => y.id == id) with
  | none =>
    rw [h] at hc
    subst hc
    have hno := List.findIdx?_eq_none_iff.1 h
    have ha := popF_all (xs.length + 1) xs now (by omega) (fun x hx => hmax x (hf.subset hx))
    dsimp only at hp
    rw [← hp] at ha
    refine ⟨ha.1, ?_, ?_⟩
    · simp [(ha.2.trans hf).length_eq]
    · intro x hx
      have h1 : x ∈ p.1 := (ha.2.trans hf).symm.subset hx
      have h2 := hno x (hf.symm.subset hx)
      simp [h1, h2]
  | some k =>
    rw [h] at hc
    obtain ⟨hk, hid, _⟩ := List.findIdx?_eq_some_iff_getElem.1 h
    have hm : xs.length = (xs.length - 1) + 1 := by omega
    have hr := (removeF_perm (i := k) hm (by omega))
    rw [it_eq hk] at hr
    subst hc
    dsimp only at hp ⊢
    generalize removeF xs k (xs.length - 1) = ys at hr hp
    generalize xs[k] = z at hr hid
    have hz : z.id = id := by simpa using hid
    have hall := hr.trans hf
    have ha := popF_all (ys.length + 1) ys now (by omega) (fun x hx => hmax x (hall.subset (List.mem_cons_of_mem _ hx)))
    rw [← hp] at ha
    refine ⟨ha.1, ?_, ?_⟩
    · have h1 := hall.length_eq
      have h2 := ha.2.length_eq
      simp only [List.length_cons] at h1
      simp only [if_true]
      omega
    · intro x hx
      have hnd := (hall.map Item.id).nodup_iff.2 (dist_nodup hd)
      rw [List.map_cons, List.nodup_cons] at hnd
      by_cases hxi : x.id = id
      · have hxp : ¬ x ∈ p.1 := fun hxp => hnd.1 (by rw [hz, ← hxi]; exact List.mem_map_of_mem (ha.2.subset hxp))
        simp [hxi, hxp]
      · have h1 : x ∈ z :: ys := hall.symm.subset hx
        rcases List.mem_cons.1 h1 with rfl | h2
        · exact absurd hz hxi
        · have hxp := ha.2.symm.subset h2
          simp [hxi, hxp]
end Go.Proofs.Ytljahaeachdjmaa

set_option linter.unusedSimpArgs false
set_option linter.unusedVariables false
set_option maxHeartbeats 8000000
namespace Go.Proofs.Ytljahaeachdjmaa
open Go Go.Amb Go.IntWalk

theorem cancelF_len (xs : List Item) (id : Int) : (cancelF xs id).1.length ≤ xs.length := by
  unfold cancelF
  cases h : xs.findIdx? (fun y => y.id == id) with
  | none => simp
  | some k =>
    obtain ⟨hk, _, _⟩ := List.findIdx?_eq_some_iff_getElem.1 h
    simp only
    rw [removeF_len (m := xs.length - 1) (by omega)]
    omega
theorem f3 (l : List Item) (id : Int) (hmax : ∀ x ∈ l, x.due ≤ 9223372036854775807) : ACall Try.prog 3 [items l, .int .i64 id] (· = .bool true) := by
  have hw := works
  simp only [items]
  refine a3_of (by simp) ?_
  repeat refine AW.seq ?_
  refine AW.reg ?_
  have hF := True.intro
  repeat (first | refine wD1 ?_ | refine wD2 ?_ | refine wE1 ?_ | refine wE2 ?_ | (refine wE3 ?_; intro _) | (refine wE4 ?_; intro _) | refine wN ?_ | ((with_reducible show evIs _ (_ :: _) _ _); first | refine wQ ?_ | refine wF ?_ | refine wG ?_ | refine wT ?_ | refine wM ?_ | refine wS ?_ | refine wP ?_ | refine wJ ?_ | refine wX ?_ | refine wY ?_))
  clear hF
  repeat refine evDone ?_
  try (show AW _ _ _ _ _)
  repeat refine AW.seq ?_
  refine AW.reg ?_
  by_cases h60 : (60 : Int) < l.length
  · have hF := h60
    repeat (first | refine wD1 ?_ | refine wD2 ?_ | refine wE1 ?_ | refine wE2 ?_ | (refine wE3 ?_; intro _) | (refine wE4 ?_; intro _) | refine wN ?_ | ((with_reducible show evIs _ (_ :: _) _ _); first | refine wQ ?_ | refine wF ?_ | refine wG ?_ | refine wT ?_ | refine wM ?_ | refine wS ?_ | refine wP ?_ | refine wJ ?_ | refine wX ?_ | refine wY ?_))
    clear hF
    repeat refine evDone ?_
    try (show AW _ _ _ _ _)
    repeat refine AW.seq ?_
    refine AW.condT (by simp []) (by simp []) ?_
    repeat refine AW.seq ?_
    refine AW.reg ?_
    have hF := True.intro
    repeat (first | refine wD1 ?_ | refine wD2 ?_ | refine wE1 ?_ | refine wE2 ?_ | (refine wE3 ?_; intro _) | (refine wE4 ?_; intro _) | refine wN ?_ | ((with_reducible show evIs _ (_ :: _) _ _); first | refine wQ ?_ | refine wF ?_ | refine wG ?_ | refine wT ?_ | refine wM ?_ | refine wS ?_ | refine wP ?_ | refine wJ ?_ | refine wX ?_ | refine wY ?_))
    clear hF
    repeat refine evDone ?_
    try (show AW _ _ _ _ _)
    have hF := True.intro
    refine wC (hA := hw) ?_
    clear hF
    have hF := True.intro
    repeat (first | refine wD1 ?_ | refine wD2 ?_ | refine wE1 ?_ | refine wE2 ?_ | (refine wE3 ?_; intro _) | (refine wE4 ?_; intro _) | refine wN ?_ | ((with_reducible show evIs _ (_ :: _) _ _); first | refine wQ ?_ | refine wF ?_ | refine wG ?_ | refine wT ?_ | refine wM ?_ | refine wS ?_ | refine wP ?_ | refine wJ ?_ | refine wX ?_ | refine wY ?_))
    clear hF
    repeat refine evDone ?_
    try (show AW _ _ _ _ _)
    refine AW.ret (retI rfl ?_)
    simp [a3_res, resOk, resP, resV, ARes.op, R2s, R2, R1s, R1, closeOk, closeV]
  have hlen : l.length ≤ 60 := by omega
  have h8 := f8 l (by omega)
  simp only [items] at h8
  have hF := h60
  repeat (first | refine wD1 ?_ | refine wD2 ?_ | refine wE1 ?_ | refine wE2 ?_ | (refine wE3 ?_; intro _) | (refine wE4 ?_; intro _) | refine wN ?_ | ((with_reducible show evIs _ (_ :: _) _ _); first | refine wQ ?_ | refine wF ?_ | refine wG ?_ | refine wT ?_ | refine wM ?_ | refine wS ?_ | refine wP ?_ | refine wJ ?_ | refine wX ?_ | refine wY ?_))
  clear hF
  repeat refine evDone ?_
  try (show AW _ _ _ _ _)
  have hF := True.intro
  refine wB (hA := h8) ?_
  clear hF
  intro b hb
  cases b with
  | false =>
    have hF := True.intro
    repeat (first | refine wD1 ?_ | refine wD2 ?_ | refine wE1 ?_ | refine wE2 ?_ | (refine wE3 ?_; intro _) | (refine wE4 ?_; intro _) | refine wN ?_ | ((with_reducible show evIs _ (_ :: _) _ _); first | refine wQ ?_ | refine wF ?_ | refine wG ?_ | refine wT ?_ | refine wM ?_ | refine wS ?_ | refine wP ?_ | refine wJ ?_ | refine wX ?_ | refine wY ?_))
    clear hF
    repeat refine evDone ?_
    try (show AW _ _ _ _ _)
    repeat refine AW.seq ?_
    refine AW.condT (by simp []) (by simp []) ?_
    repeat refine AW.seq ?_
    refine AW.reg ?_
    have hF := True.intro
    repeat (first | refine wD1 ?_ | refine wD2 ?_ | refine wE1 ?_ | refine wE2 ?_ | (refine wE3 ?_; intro _) | (refine wE4 ?_; intro _) | refine wN ?_ | ((with_reducible show evIs _ (_ :: _) _ _); first | refine wQ ?_ | refine wF ?_ | refine wG ?_ | refine wT ?_ | refine wM ?_ | refine wS ?_ | refine wP ?_ | refine wJ ?_ | refine wX ?_ | refine wY ?_))
    clear hF
    repeat refine evDone ?_
    try (show AW _ _ _ _ _)
    have hF := True.intro
    refine wC (hA := hw) ?_
    clear hF
    have hF := True.intro
    repeat (first | refine wD1 ?_ | refine wD2 ?_ | refine wE1 ?_ | refine wE2 ?_ | (refine wE3 ?_; intro _) | (refine wE4 ?_; intro _) | refine wN ?_ | ((with_reducible show evIs _ (_ :: _) _ _); first | refine wQ ?_ | refine wF ?_ | refine wG ?_ | refine wT ?_ | refine wM ?_ | refine wS ?_ | refine wP ?_ | refine wJ ?_ | refine wX ?_ | refine wY ?_))
    clear hF
    repeat refine evDone ?_
    try (show AW _ _ _ _ _)
    refine AW.ret (retI rfl ?_)
    simp [a3_res, resOk, resP, resV, ARes.op, R2s, R2, R1s, R1, closeOk, closeV]
  | true =>
    have hd := hb rfl
    have hma : (∀ (fh fq : Nat → Nat → Nat → AV) (cs : List AV), mapA fh fq (.agg cs) = .agg (cs.map (mapA fh fq))) ∧ (∀ (fh fq : Nat → Nat → Nat → AV) (r o n : Nat), mapA fh fq (.hdr r o n) = fh r o n) ∧ (∀ (fh fq : Nat → Nat → Nat → AV) (b : Bool), mapA fh fq (.bool b) = .bool b) ∧ (∀ (fh fq : Nat → Nat → Nat → AV) (n : Int), mapA fh fq (.int .i64 n) = .int .i64 n) := by
      refine ⟨?_, ?_, ?_, ?_⟩ <;> intros <;> simp [mapA, mapAs_eq]
    have hF := True.intro
    repeat (first | refine wD1 ?_ | refine wD2 ?_ | refine wE1 ?_ | refine wE2 ?_ | (refine wE3 ?_; intro _) | (refine wE4 ?_; intro _) | refine wN ?_ | ((with_reducible show evIs _ (_ :: _) _ _); first | refine wQ ?_ | refine wF ?_ | refine wG ?_ | refine wT ?_ | refine wM ?_ | refine wS ?_ | refine wP ?_ | refine wJ ?_ | refine wX ?_ | refine wY ?_))
    clear hF
    repeat refine evDone ?_
    try (show AW _ _ _ _ _)
    repeat refine AW.seq ?_
    refine AW.condF (by simp []) (by simp []) ?_
    refine AW.skip ?_
    show AW _ _ _ _ _
    have h10 : BCall Try.prog 10 [] 100 [] (fun H1 n' v => H1 = [(102, ⟨2, true, [.agg [.hdr 600 0 0, .bool true]]⟩), (600, ⟨2, false, []⟩)] ∧ n' = 1100 ∧ v = .ptr 102 0 0) := f10 100
    repeat refine AW.seq ?_
    refine AW.reg ?_
    have hF := True.intro
    repeat (first | refine wD1 ?_ | refine wD2 ?_ | refine wE1 ?_ | refine wE2 ?_ | (refine wE3 ?_; intro _) | (refine wE4 ?_; intro _) | refine wN ?_ | ((with_reducible show evIs _ (_ :: _) _ _); first | refine wQ ?_ | refine wF ?_ | refine wG ?_ | refine wT ?_ | refine wM ?_ | refine wS ?_ | refine wP ?_ | refine wJ ?_ | refine wX ?_ | refine wY ?_))
    clear hF
    repeat refine evDone ?_
    try (show AW _ _ _ _ _)
    have hF := True.intro
    refine wL (hA := h10) ?_
    clear hF
    rintro _ _ _ ⟨rfl, rfl, rfl⟩
    have hF := True.intro
    repeat (first | refine wD1 ?_ | refine wD2 ?_ | refine wE1 ?_ | refine wE2 ?_ | (refine wE3 ?_; intro _) | (refine wE4 ?_; intro _) | refine wN ?_ | ((with_reducible show evIs _ (_ :: _) _ _); first | refine wQ ?_ | refine wF ?_ | refine wG ?_ | refine wT ?_ | refine wM ?_ | refine wS ?_ | refine wP ?_ | refine wJ ?_ | refine wX ?_ | refine wY ?_))
    clear hF
    repeat refine evDone ?_
    try (show AW _ _ _ _ _)
    repeat refine AW.seq ?_
    refine AW.reg ?_
    have hF := True.intro
    repeat (first | refine wD1 ?_ | refine wD2 ?_ | refine wE1 ?_ | refine wE2 ?_ | (refine wE3 ?_; intro _) | (refine wE4 ?_; intro _) | refine wN ?_ | ((with_reducible show evIs _ (_ :: _) _ _); first | refine wQ ?_ | refine wF ?_ | refine wG ?_ | refine wT ?_ | refine wM ?_ | refine wS ?_ | refine wP ?_ | refine wJ ?_ | refine wX ?_ | refine wY ?_))
    clear hF
    repeat refine evDone ?_
    try (show AW _ _ _ _ _)
    repeat refine AW.seq ?_
    refine AW.condF (by simp []) (by simp []) ?_
    refine AW.skip ?_
    show AW _ _ _ _ _
    repeat refine AW.seq ?_
    refine AW.reg ?_
    have hF := True.intro
    repeat (first | refine wD1 ?_ | refine wD2 ?_ | refine wE1 ?_ | refine wE2 ?_ | (refine wE3 ?_; intro _) | (refine wE4 ?_; intro _) | refine wN ?_ | ((with_reducible show evIs _ (_ :: _) _ _); first | refine wQ ?_ | refine wF ?_ | refine wG ?_ | refine wT ?_ | refine wM ?_ | refine wS ?_ | refine wP ?_ | refine wJ ?_ | refine wX ?_ | refine wY ?_))
    clear hF
    repeat refine evDone ?_
    try (show AW _ _ _ _ _)
    have h11 := f11 2000 102 600 (by omega) (by omega) (by omega) [] l (by simp; omega)
    obtain ⟨c, hc⟩ : ∃ c, c = cancelF (fillF [] l) id := ⟨_, rfl⟩
    obtain ⟨p, hp⟩ : ∃ p, p = popF (c.1.length + 1) c.1 9223372036854775807 := ⟨_, rfl⟩
    have hlaw := cancel_law hd id 9223372036854775807 hmax c hc p hp
    have hfl := fillF_len l l.length []
    rw [List.take_length] at hfl
    generalize fillF [] l = xs at *
    simp only [Qs, box, items, Item.av, List.map_cons, List.map_nil, List.length_cons, List.length_nil, Nat.zero_add] at h11 hfl
    have hF := True.intro
    refine wL (hA := h11) ?_
    clear hF
    rintro H1 n' v ⟨H, hH0, hHn, hHB, rfl, rfl⟩
    have hcl := cancelF_len xs id
    rw [← hc] at hcl
    have h12 := f12 (n' + 10000) 102 H (by omega) (by omega) (fun e => hHB e.symm) xs id (by omega)
    have h13 := f13 (n' + 20000) 102 H (by omega) (by omega) (fun e => hHB e.symm) c.1 9223372036854775807 (by omega)
    rw [← hc] at h12
    rw [← hp, hlaw.1] at h13
    simp only [Qs, box, items, Item.av, List.map_cons, List.map_nil, List.length_cons, List.length_nil, Nat.zero_add] at h12 h13
    have hM : (102 = H) = False ∧ (H = 102) = False ∧ (∀ c, c < 100 → (c = H) = False) ∧ (∀ c, c < 100 → (H = c) = False) := ⟨eq_false (by omega), eq_false (by omega), fun c hc => eq_false (by omega), fun c hc => eq_false (by omega)⟩
    have hF := hM
    repeat (first | refine wD1 ?_ | refine wD2 ?_ | refine wE1 ?_ | refine wE2 ?_ | (refine wE3 ?_; intro _) | (refine wE4 ?_; intro _) | refine wN ?_ | ((with_reducible show evIs _ (_ :: _) _ _); first | refine wQ ?_ | refine wF ?_ | refine wG ?_ | refine wT ?_ | refine wM ?_ | refine wS ?_ | refine wP ?_ | refine wJ ?_ | refine wX ?_ | refine wY ?_))
    clear hF
    repeat refine evDone ?_
    try (show AW _ _ _ _ _)
    repeat refine AW.seq ?_
    refine AW.reg ?_
    have hF := hM
    repeat (first | refine wD1 ?_ | refine wD2 ?_ | refine wE1 ?_ | refine wE2 ?_ | (refine wE3 ?_; intro _) | (refine wE4 ?_; intro _) | refine wN ?_ | ((with_reducible show evIs _ (_ :: _) _ _); first | refine wQ ?_ | refine wF ?_ | refine wG ?_ | refine wT ?_ | refine wM ?_ | refine wS ?_ | refine wP ?_ | refine wJ ?_ | refine wX ?_ | refine wY ?_))
    clear hF
    repeat refine evDone ?_
    try (show AW _ _ _ _ _)
    have hF := hM
    refine wL (hA := h12) ?_
    clear hF
    rintro _ _ _ ⟨rfl, rfl, rfl⟩
    have hF := hM
    repeat (first | refine wD1 ?_ | refine wD2 ?_ | refine wE1 ?_ | refine wE2 ?_ | (refine wE3 ?_; intro _) | (refine wE4 ?_; intro _) | refine wN ?_ | ((with_reducible show evIs _ (_ :: _) _ _); first | refine wQ ?_ | refine wF ?_ | refine wG ?_ | refine wT ?_ | refine wM ?_ | refine wS ?_ | refine wP ?_ | refine wJ ?_ | refine wX ?_ | refine wY ?_))
    clear hF
    repeat refine evDone ?_
    try (show AW _ _ _ _ _)
    repeat refine AW.seq ?_
    refine AW.reg ?_
    have hF := hM
    repeat (first | refine wD1 ?_ | refine wD2 ?_ | refine wE1 ?_ | refine wE2 ?_ | (refine wE3 ?_; intro _) | (refine wE4 ?_; intro _) | refine wN ?_ | ((with_reducible show evIs _ (_ :: _) _ _); first | refine wQ ?_ | refine wF ?_ | refine wG ?_ | refine wT ?_ | refine wM ?_ | refine wS ?_ | refine wP ?_ | refine wJ ?_ | refine wX ?_ | refine wY ?_))
    clear hF
    repeat refine evDone ?_
    try (show AW _ _ _ _ _)
    have hF := hM
    refine wL (hA := h13) ?_
    clear hF
    rintro H1 m v ⟨r, hr1, hr2, rfl, rfl⟩
    have hN : (102 = H) = False ∧ (H = 102) = False ∧ (102 = r) = False ∧ (r = 102) = False ∧ (H = r) = False ∧ (r = H) = False ∧ (∀ c, c < 100 → (c = H) = False) ∧ (∀ c, c < 100 → (H = c) = False) ∧ (∀ c, c < 100 → (c = r) = False) ∧ (∀ c, c < 100 → (r = c) = False) ∧ 102 < m ∧ H < m ∧ r < m ∧ n' < m ∧ 1100 < m ∧ n' + 13000 < m := by
      refine ⟨?_, ?_, ?_, ?_, ?_, ?_, ?_, ?_, ?_, ?_, ?_, ?_, ?_, ?_, ?_, ?_⟩ <;> first | exact eq_false (by omega) | exact fun c hc => eq_false (by omega) | omega
    have hF := hN
    repeat (first | refine wD1 ?_ | refine wD2 ?_ | refine wE1 ?_ | refine wE2 ?_ | (refine wE3 ?_; intro _) | (refine wE4 ?_; intro _) | refine wN ?_ | ((with_reducible show evIs _ (_ :: _) _ _); first | refine wQ ?_ | refine wF ?_ | refine wG ?_ | refine wT ?_ | refine wM ?_ | refine wS ?_ | refine wP ?_ | refine wJ ?_ | refine wX ?_ | refine wY ?_))
    clear hF
    repeat refine evDone ?_
    try (show AW _ _ _ _ _)
    repeat refine AW.seq ?_
    refine AW.reg ?_
    have hF := hN
    repeat (first | refine wD1 ?_ | refine wD2 ?_ | refine wE1 ?_ | refine wE2 ?_ | (refine wE3 ?_; intro _) | (refine wE4 ?_; intro _) | refine wN ?_ | ((with_reducible show evIs _ (_ :: _) _ _); first | refine wQ ?_ | refine wF ?_ | refine wG ?_ | refine wT ?_ | refine wM ?_ | refine wS ?_ | refine wP ?_ | refine wJ ?_ | refine wX ?_ | refine wY ?_))
    clear hF
    repeat refine evDone ?_
    try (show AW _ _ _ _ _)
    repeat refine AW.seq ?_
    refine AW.block ?_
    refine AW.loop (fun g : Nat × Nat => g.1 ≤ l.length ∧ m ≤ g.2) (fun g => mkS [(0, .sl .fro (l.map Item.av)), (1, .int .i64 id), (5, .ptr 102 0 0), (6, .bool c.2), (7, .hdr r 0 p.1.length), (31, .sl .fro (l.map Item.av)), (32, .int .i64 l.length), (33, .int .i64 g.1)] [(102, ⟨2, true, [.agg [.hdr H 0 0, .bool true]]⟩), (H, ⟨2, false, []⟩), (r, ⟨2, false, p.1.map Item.av⟩)] g.2) (fun g => l.length - g.1) (0, m) ⟨by simp, by simp⟩ ?_ ?_
    · refine Fit.mk _ _ _ (by simp [hN, conv2, newEmp, convs_refl, convs, conv]) (by simp [hN, heapFit, newEmp, conv2s, conv2, convs_refl, convs, conv]) (by intro q hq; first | (simp at hq; done) | (simp at hq; omega) | (simp at hq; simp; omega))
    · rintro ⟨i, n⟩ ⟨hi, hn⟩
      dsimp only at hi hn ⊢
      have hnl : ∀ k, (n + k < n) = False := fun k => eq_false (by omega)

      repeat refine AW.seq ?_
      refine AW.reg ?_
      by_cases hlt : i < l.length
      · have hF := And.intro (hlt) (hN)
        repeat (first | refine wD1 ?_ | refine wD2 ?_ | refine wE1 ?_ | refine wE2 ?_ | (refine wE3 ?_; intro _) | (refine wE4 ?_; intro _) | refine wN ?_ | ((with_reducible show evIs _ (_ :: _) _ _); first | refine wQ ?_ | refine wF ?_ | refine wG ?_ | refine wT ?_ | refine wM ?_ | refine wS ?_ | refine wP ?_ | refine wJ ?_ | refine wX ?_ | refine wY ?_))
        clear hF
        repeat refine evDone ?_
        try (show AW _ _ _ _ _)
        repeat refine AW.seq ?_
        refine AW.condT (by simp []) (by simp []) ?_
        refine AW.skip ?_
        show AW _ _ _ _ _
        refine AW.seq (AW.block ?_)
        obtain ⟨x, hx⟩ : ∃ x, l[i]? = some x := ⟨_, List.getElem?_eq_getElem hlt⟩
        have he := elem_map (f := Item.av) hx
        have h14 := f14 p.1 x (by omega)
        have hla := hlaw.2.2 x (List.mem_of_getElem? hx)
        rw [hla] at h14
        obtain ⟨x1, x2⟩ := x
        simp only [Item.av, items] at he h14
        repeat refine AW.seq ?_
        refine AW.reg ?_
        have hF := And.intro (hlt) (And.intro (he) (And.intro (hnl) (hN)))
        repeat (first | refine wD1 ?_ | refine wD2 ?_ | refine wE1 ?_ | refine wE2 ?_ | (refine wE3 ?_; intro _) | (refine wE4 ?_; intro _) | refine wN ?_ | ((with_reducible show evIs _ (_ :: _) _ _); first | refine wQ ?_ | refine wF ?_ | refine wG ?_ | refine wT ?_ | refine wM ?_ | refine wS ?_ | refine wP ?_ | refine wJ ?_ | refine wX ?_ | refine wY ?_))
        clear hF
        repeat refine evDone ?_
        try (show AW _ _ _ _ _)
        have hK : (∀ k, (102 = n + k) = False) ∧ (∀ k, (n + k = 102) = False) ∧ (∀ k, (H = n + k) = False) ∧ (∀ k, (n + k = H) = False) ∧ (∀ k, (r = n + k) = False) ∧ (∀ k, (n + k = r) = False) ∧ 102 < n + 60 ∧ H < n + 60 ∧ r < n + 60 := by
          refine ⟨?_, ?_, ?_, ?_, ?_, ?_, ?_, ?_, ?_⟩ <;> first | exact fun k => eq_false (by omega) | omega
        have htk : (p.1.map Item.av).take p.1.length = p.1.map Item.av := List.take_of_length_le (by simp)
        have hcl : (p.1.map Item.av).map clC = p.1.map Item.av := items_cl p.1
        repeat refine AW.seq ?_
        refine AW.draw ?_
        have hF := And.intro (hnl) (And.intro (hN) (hK))
        repeat (first | refine wD1 ?_ | refine wD2 ?_ | refine wE1 ?_ | refine wE2 ?_ | (refine wE3 ?_; intro _) | (refine wE4 ?_; intro _) | refine wN ?_ | ((with_reducible show evIs _ (_ :: _) _ _); first | refine wQ ?_ | refine wF ?_ | refine wG ?_ | refine wT ?_ | refine wM ?_ | refine wS ?_ | refine wP ?_ | refine wJ ?_ | refine wX ?_ | refine wY ?_))
        clear hF
        repeat refine evDone ?_
        try (show AW _ _ _ _ _)
        have hF := And.intro (hma) (And.intro (hnl) (And.intro (hN) (And.intro (hK) (And.intro (htk) (hcl)))))
        refine wC (hA := h14) ?_
        clear hF
        have hF := And.intro (hnl) (And.intro (hN) (hK))
        repeat (first | refine wD1 ?_ | refine wD2 ?_ | refine wE1 ?_ | refine wE2 ?_ | (refine wE3 ?_; intro _) | (refine wE4 ?_; intro _) | refine wN ?_ | ((with_reducible show evIs _ (_ :: _) _ _); first | refine wQ ?_ | refine wF ?_ | refine wG ?_ | refine wT ?_ | refine wM ?_ | refine wS ?_ | refine wP ?_ | refine wJ ?_ | refine wX ?_ | refine wY ?_))
        clear hF
        repeat refine evDone ?_
        try (show AW _ _ _ _ _)
        have hxx : ((!(x2 == id)) == (x2 == id)) = false := by cases x2 == id <;> rfl
        repeat refine AW.seq ?_
        refine AW.condF (by simp [hxx]) (by simp [hxx]) ?_
        refine AW.skip ?_
        show AW _ _ _ _ _
        refine AW.reg ?_
        have hw : IntKind.i64.wrap ((i : Int) + 1) = (i : Int) + 1 := i64_in _ ⟨by omega, by omega⟩
        have hF := hw
        repeat (first | refine wD1 ?_ | refine wD2 ?_ | refine wE1 ?_ | refine wE2 ?_ | (refine wE3 ?_; intro _) | (refine wE4 ?_; intro _) | refine wN ?_ | ((with_reducible show evIs _ (_ :: _) _ _); first | refine wQ ?_ | refine wF ?_ | refine wG ?_ | refine wT ?_ | refine wM ?_ | refine wS ?_ | refine wP ?_ | refine wJ ?_ | refine wX ?_ | refine wY ?_))
        clear hF
        repeat refine evDone ?_
        try (show AW _ _ _ _ _)
        refine ⟨(i + 1, n + 60), ⟨by dsimp only; omega, by dsimp only; omega⟩, by dsimp only; omega, ?_⟩
        refine Fit.mk _ _ _ (by simp [hw, hN, hK, conv2, newEmp, convs_refl, convs, conv]) (by simp [hw, hN, hK, heapFit, newEmp, conv2s, conv2, convs_refl, convs, conv]) (by intro q hq; first | (simp at hq; done) | (simp at hq; omega) | (simp at hq; simp; omega))
      · have hlt2 : ¬ (i : Int) < l.length := by omega
        have hF := And.intro (hlt) (And.intro (hlt2) (hN))
        repeat (first | refine wD1 ?_ | refine wD2 ?_ | refine wE1 ?_ | refine wE2 ?_ | (refine wE3 ?_; intro _) | (refine wE4 ?_; intro _) | refine wN ?_ | ((with_reducible show evIs _ (_ :: _) _ _); first | refine wQ ?_ | refine wF ?_ | refine wG ?_ | refine wT ?_ | refine wM ?_ | refine wS ?_ | refine wP ?_ | refine wJ ?_ | refine wX ?_ | refine wY ?_))
        clear hF
        repeat refine evDone ?_
        try (show AW _ _ _ _ _)
        repeat refine AW.seq ?_
        refine AW.condF (by simp []) (by simp []) ?_
        refine AW.exit ?_
        show AW _ _ _ _ _
        have h15 := f15 []
        simp only [qv, items, List.map_nil, List.length_nil] at h15
        have hl2 := hlaw.2.1
        have hpl : (p.1.length : Int) ≤ 60 := by split at hl2 <;> omega
        repeat refine AW.seq ?_
        refine AW.reg ?_
        have hF := True.intro
        repeat (first | refine wD1 ?_ | refine wD2 ?_ | refine wE1 ?_ | refine wE2 ?_ | (refine wE3 ?_; intro _) | (refine wE4 ?_; intro _) | refine wN ?_ | ((with_reducible show evIs _ (_ :: _) _ _); first | refine wQ ?_ | refine wF ?_ | refine wG ?_ | refine wT ?_ | refine wM ?_ | refine wS ?_ | refine wP ?_ | refine wJ ?_ | refine wX ?_ | refine wY ?_))
        clear hF
        repeat refine evDone ?_
        try (show AW _ _ _ _ _)
        repeat refine AW.seq ?_
        refine AW.reg ?_
        have hF := True.intro
        repeat (first | refine wD1 ?_ | refine wD2 ?_ | refine wE1 ?_ | refine wE2 ?_ | (refine wE3 ?_; intro _) | (refine wE4 ?_; intro _) | refine wN ?_ | ((with_reducible show evIs _ (_ :: _) _ _); first | refine wQ ?_ | refine wF ?_ | refine wG ?_ | refine wT ?_ | refine wM ?_ | refine wS ?_ | refine wP ?_ | refine wJ ?_ | refine wX ?_ | refine wY ?_))
        clear hF
        repeat refine evDone ?_
        try (show AW _ _ _ _ _)
        cases hc2 : c.2 with
        | true =>
          rw [hc2] at hl2
          simp only [if_true] at hl2
          have hw1 : IntKind.i64.wrap ((l.length : Int) - 1) = (l.length : Int) - 1 := i64_in _ ⟨by omega, by omega⟩
          have hle : ((p.1.length : Int) == (l.length : Int) - 1) = true := by rw [hl2]; simp
          repeat refine AW.seq ?_
          refine AW.condT (by simp []) (by simp []) ?_
          repeat refine AW.seq ?_
          refine AW.reg ?_
          have hF := hw1
          repeat (first | refine wD1 ?_ | refine wD2 ?_ | refine wE1 ?_ | refine wE2 ?_ | (refine wE3 ?_; intro _) | (refine wE4 ?_; intro _) | refine wN ?_ | ((with_reducible show evIs _ (_ :: _) _ _); first | refine wQ ?_ | refine wF ?_ | refine wG ?_ | refine wT ?_ | refine wM ?_ | refine wS ?_ | refine wP ?_ | refine wJ ?_ | refine wX ?_ | refine wY ?_))
          clear hF
          repeat refine evDone ?_
          try (show AW _ _ _ _ _)
          repeat refine AW.seq ?_
          refine AW.reg ?_
          have hF := And.intro (hN) (hle)
          repeat (first | refine wD1 ?_ | refine wD2 ?_ | refine wE1 ?_ | refine wE2 ?_ | (refine wE3 ?_; intro _) | (refine wE4 ?_; intro _) | refine wN ?_ | ((with_reducible show evIs _ (_ :: _) _ _); first | refine wQ ?_ | refine wF ?_ | refine wG ?_ | refine wT ?_ | refine wM ?_ | refine wS ?_ | refine wP ?_ | refine wJ ?_ | refine wX ?_ | refine wY ?_))
          clear hF
          repeat refine evDone ?_
          try (show AW _ _ _ _ _)
          have hF := And.intro (hma) (hN)
          refine wC (hA := h15) ?_
          clear hF
          have hF := And.intro (hN) (hle)
          repeat (first | refine wD1 ?_ | refine wD2 ?_ | refine wE1 ?_ | refine wE2 ?_ | (refine wE3 ?_; intro _) | (refine wE4 ?_; intro _) | refine wN ?_ | ((with_reducible show evIs _ (_ :: _) _ _); first | refine wQ ?_ | refine wF ?_ | refine wG ?_ | refine wT ?_ | refine wM ?_ | refine wS ?_ | refine wP ?_ | refine wJ ?_ | refine wX ?_ | refine wY ?_))
          clear hF
          repeat refine evDone ?_
          try (show AW _ _ _ _ _)
          have hF := True.intro
          refine wC (hA := hw) ?_
          clear hF
          have hF := And.intro (hN) (hle)
          repeat (first | refine wD1 ?_ | refine wD2 ?_ | refine wE1 ?_ | refine wE2 ?_ | (refine wE3 ?_; intro _) | (refine wE4 ?_; intro _) | refine wN ?_ | ((with_reducible show evIs _ (_ :: _) _ _); first | refine wQ ?_ | refine wF ?_ | refine wG ?_ | refine wT ?_ | refine wM ?_ | refine wS ?_ | refine wP ?_ | refine wJ ?_ | refine wX ?_ | refine wY ?_))
          clear hF
          repeat refine evDone ?_
          try (show AW _ _ _ _ _)
          refine AW.ret (retI rfl ?_)
          simp [hN, a3_res, resOk, resP, resV, ARes.op, R2s, R2, R1s, R1, closeOk, closeV]
        | false =>
          rw [hc2] at hl2
          simp only [Bool.false_eq_true, if_false] at hl2
          have hle : ((p.1.length : Int) == (l.length : Int)) = true := by rw [hl2]; simp
          repeat refine AW.seq ?_
          refine AW.condF (by simp []) (by simp []) ?_
          refine AW.skip ?_
          show AW _ _ _ _ _
          repeat refine AW.seq ?_
          refine AW.reg ?_
          have hF := And.intro (hN) (hle)
          repeat (first | refine wD1 ?_ | refine wD2 ?_ | refine wE1 ?_ | refine wE2 ?_ | (refine wE3 ?_; intro _) | (refine wE4 ?_; intro _) | refine wN ?_ | ((with_reducible show evIs _ (_ :: _) _ _); first | refine wQ ?_ | refine wF ?_ | refine wG ?_ | refine wT ?_ | refine wM ?_ | refine wS ?_ | refine wP ?_ | refine wJ ?_ | refine wX ?_ | refine wY ?_))
          clear hF
          repeat refine evDone ?_
          try (show AW _ _ _ _ _)
          have hF := And.intro (hma) (hN)
          refine wC (hA := h15) ?_
          clear hF
          have hF := And.intro (hN) (hle)
          repeat (first | refine wD1 ?_ | refine wD2 ?_ | refine wE1 ?_ | refine wE2 ?_ | (refine wE3 ?_; intro _) | (refine wE4 ?_; intro _) | refine wN ?_ | ((with_reducible show evIs _ (_ :: _) _ _); first | refine wQ ?_ | refine wF ?_ | refine wG ?_ | refine wT ?_ | refine wM ?_ | refine wS ?_ | refine wP ?_ | refine wJ ?_ | refine wX ?_ | refine wY ?_))
          clear hF
          repeat refine evDone ?_
          try (show AW _ _ _ _ _)
          have hF := True.intro
          refine wC (hA := hw) ?_
          clear hF
          have hF := And.intro (hN) (hle)
          repeat (first | refine wD1 ?_ | refine wD2 ?_ | refine wE1 ?_ | refine wE2 ?_ | (refine wE3 ?_; intro _) | (refine wE4 ?_; intro _) | refine wN ?_ | ((with_reducible show evIs _ (_ :: _) _ _); first | refine wQ ?_ | refine wF ?_ | refine wG ?_ | refine wT ?_ | refine wM ?_ | refine wS ?_ | refine wP ?_ | refine wJ ?_ | refine wX ?_ | refine wY ?_))
          clear hF
          repeat refine evDone ?_
          try (show AW _ _ _ _ _)
          refine AW.ret (retI rfl ?_)
          simp [hN, a3_res, resOk, resP, resV, ARes.op, R2s, R2, R1s, R1, closeOk, closeV]
end Go.Proofs.Ytljahaeachdjmaa
