/- Contracts of chapter 17's functions: what the document wakes, what is small, and the law of Wake. -/
import Derived.Test.YtnjdjahcepakgaaS3
import Derived.Test.YtnjdjahcepakgaaRows

set_option linter.unusedSimpArgs false
set_option linter.unusedVariables false
set_option maxHeartbeats 4000000
namespace Go.Proofs.Ytnjdjahcepakgaa
open Go Go.Amb Go.IntWalk

theorem f15 (ks : List Coro) (fs : List Fut) (hks : ks.length * 88 ≤ 140737488355328) (hok : ∀ c ∈ ks, c.ok) : ACall Try.prog 15 [.sl .fro (ks.map (Coro.av false)), futs fs] (· = .sl (.own 6) (ks.map (wkA fs))) := by
  refine a15_of (by simp) ?_
  repeat refine AW.seq ?_
  refine AW.reg ?_
  have hF := True.intro
  repeat (first | refine wD1 ?_ | refine wD2 ?_ | refine wE1 ?_ | refine wE2 ?_ | refine wN ?_ | ((with_reducible show evIs _ (_ :: _) _ _); first | refine wQ ?_ | refine wF ?_ | refine wG ?_ | refine wT ?_ | refine wM ?_ | refine wS ?_ | refine wP ?_))
  clear hF
  repeat refine evDone ?_
  try (show AW _ _ _ _ _)
  repeat refine AW.seq ?_
  refine AW.reg ?_
  have hF := True.intro
  repeat (first | refine wD1 ?_ | refine wD2 ?_ | refine wE1 ?_ | refine wE2 ?_ | refine wN ?_ | ((with_reducible show evIs _ (_ :: _) _ _); first | refine wQ ?_ | refine wF ?_ | refine wG ?_ | refine wT ?_ | refine wM ?_ | refine wS ?_ | refine wP ?_))
  clear hF
  repeat refine evDone ?_
  try (show AW _ _ _ _ _)
  repeat refine AW.seq ?_
  refine AW.reg ?_
  have hF := True.intro
  repeat (first | refine wD1 ?_ | refine wD2 ?_ | refine wE1 ?_ | refine wE2 ?_ | refine wN ?_ | ((with_reducible show evIs _ (_ :: _) _ _); first | refine wQ ?_ | refine wF ?_ | refine wG ?_ | refine wT ?_ | refine wM ?_ | refine wS ?_ | refine wP ?_))
  clear hF
  repeat refine evDone ?_
  try (show AW _ _ _ _ _)
  repeat refine AW.seq ?_
  refine AW.block ?_
  refine AW.loop (fun g : Nat × Nat × Nat => g.1 ≤ ks.length ∧ g.2.2 < g.2.1 ∧ 0 ≤ g.2.2 ∧ 0 ≤ g.2.1) (fun g => mkS [(0, .sl .fro (ks.map (Coro.av false))), (1, futs fs), (5, .hdr g.2.2 0 g.1), (6, .int .i64 g.1)] [(g.2.2, ⟨6, false, pre (wkA fs) ks g.1⟩)] g.2.1) (fun g => ks.length - g.1) (0, 1, 0) ⟨by simp, by simp, by simp, by simp⟩ ?_ ?_
  · refine Fit.mk _ _ _ (by simp [futs, pre_zero, conv2, newEmp, convs_refl, convs, conv]) (by simp [futs, pre_zero, heapFit, newEmp, conv2s, conv2, convs_refl, convs, conv]) (by intro q hq; first | (simp at hq; done) | (simp at hq; omega) | (simp at hq; simp; omega))
  · rintro ⟨i, n, r⟩ ⟨hi, hr, hbr, hbn⟩
    dsimp only at hi hr hbr hbn ⊢
    have hne : ∀ k, (r = n + k) = False := fun k => eq_false (by omega)
    have hne' : ∀ k, (n + k = r) = False := fun k => eq_false (by omega)
    have hnl : ∀ k, (n + k < n) = False := fun k => eq_false (by omega)
    have hrn : ∀ k, r < n + k := fun k => by omega

    repeat refine AW.seq ?_
    refine AW.reg ?_
    by_cases hlt : i < ks.length
    · have hF := hlt
      repeat (first | refine wD1 ?_ | refine wD2 ?_ | refine wE1 ?_ | refine wE2 ?_ | refine wN ?_ | ((with_reducible show evIs _ (_ :: _) _ _); first | refine wQ ?_ | refine wF ?_ | refine wG ?_ | refine wT ?_ | refine wM ?_ | refine wS ?_ | refine wP ?_))
      clear hF
      repeat refine evDone ?_
      try (show AW _ _ _ _ _)
      repeat refine AW.seq ?_
      refine AW.condT (by simp []) (by simp []) ?_
      refine AW.skip ?_
      show AW _ _ _ _ _
      refine AW.seq (AW.block ?_)
      obtain ⟨c, hc⟩ : ∃ c, ks[i]? = some c := ⟨_, List.getElem?_eq_getElem hlt⟩
      have hcm : c ∈ ks := List.mem_of_getElem? hc
      have he := elem_map (f := Coro.av false) hc
      simp only [Coro.av, ko_false] at he
      have hwl : c.waits.length ≤ 9223372036854775807 := by have := (hok c hcm).2.1; omega
      have hpl := pre_len (f := wkA fs) hi
      have hpa := pre_add (f := wkA fs) hc
      repeat refine AW.seq ?_
      refine AW.reg ?_
      have hF := And.intro (hlt) (And.intro (he) (And.intro (hne) (And.intro (hne') (hnl))))
      repeat (first | refine wD1 ?_ | refine wD2 ?_ | refine wE1 ?_ | refine wE2 ?_ | refine wN ?_ | ((with_reducible show evIs _ (_ :: _) _ _); first | refine wQ ?_ | refine wF ?_ | refine wG ?_ | refine wT ?_ | refine wM ?_ | refine wS ?_ | refine wP ?_))
      clear hF
      repeat refine evDone ?_
      try (show AW _ _ _ _ _)
      have hF := True.intro
      refine wC (hA := f30 c (hok c hcm)) ?_
      clear hF
      have hF := And.intro (hne) (And.intro (hne') (hnl))
      repeat (first | refine wD1 ?_ | refine wD2 ?_ | refine wE1 ?_ | refine wE2 ?_ | refine wN ?_ | ((with_reducible show evIs _ (_ :: _) _ _); first | refine wQ ?_ | refine wF ?_ | refine wG ?_ | refine wT ?_ | refine wM ?_ | refine wS ?_ | refine wP ?_))
      clear hF
      repeat refine evDone ?_
      try (show AW _ _ _ _ _)
      refine AW.seq ?_
      refine AW.fit (st' := mkS [(0, .sl .fro (ks.map (Coro.av false))), (1, futs fs), (5, .hdr r 0 i), (6, .int .i64 i), (7, .ptr (n + 12) 0 0)] [(r, ⟨6, false, pre (wkA fs) ks i⟩), (n + 12, ⟨6, true, [c.av false]⟩)] (n + 20)) ?_ ?_
      · refine Fit.mk _ _ _ (by simp [hne, hne', hrn, Coro.av, conv2, newEmp, convs_refl, convs, conv]) (by simp [hne, hne', hrn, Coro.av, heapFit, newEmp, conv2s, conv2, convs_refl, convs, conv]) (by intro q hq; first | (simp at hq; done) | (simp at hq; omega) | (simp at hq; simp; omega))
      refine AW.reg ?_
      have hF := And.intro (hne) (And.intro (hne') (And.intro (hnl) (Coro.av.eq_1)))
      repeat (first | refine wD1 ?_ | refine wD2 ?_ | refine wE1 ?_ | refine wE2 ?_ | refine wN ?_ | ((with_reducible show evIs _ (_ :: _) _ _); first | refine wQ ?_ | refine wF ?_ | refine wG ?_ | refine wT ?_ | refine wM ?_ | refine wS ?_ | refine wP ?_))
      clear hF
      repeat refine evDone ?_
      try (show AW _ _ _ _ _)
      have hF := True.intro
      refine wC (hA := f9 fs c.waits hwl) ?_
      clear hF
      have hF := And.intro (hne) (And.intro (hne') (hnl))
      repeat (first | refine wD1 ?_ | refine wD2 ?_ | refine wE1 ?_ | refine wE2 ?_ | refine wN ?_ | ((with_reducible show evIs _ (_ :: _) _ _); first | refine wQ ?_ | refine wF ?_ | refine wG ?_ | refine wT ?_ | refine wM ?_ | refine wS ?_ | refine wP ?_))
      clear hF
      repeat refine evDone ?_
      try (show AW _ _ _ _ _)
      show AW _ _ _ _ _
      refine AW.cut (st' := mkS [(0, .sl .fro (ks.map (Coro.av false))), (1, futs fs), (5, .hdr r 0 i), (6, .int .i64 i), (7, .ptr (n + 12) 0 0)] [(r, ⟨6, false, pre (wkA fs) ks i⟩), (n + 12, ⟨6, true, [wkA fs c]⟩)] (n + 20)) ?_ ?_
      · repeat refine AW.seq ?_
        refine AW.reg ?_
        have hw : wk fs c = if (readyR c.waits (doneAt fs)).2 && c.state == 2 then { c with state := 1 } else c := rfl
        by_cases hs : c.state = 2
        · cases hb : (readyR c.waits (doneAt fs)).2
          · have hF := And.intro (hne) (And.intro (hne') (And.intro (hnl) (And.intro (hb) (And.intro (hs) (Coro.av.eq_1)))))
            repeat (first | refine wD1 ?_ | refine wD2 ?_ | refine wE1 ?_ | refine wE2 ?_ | refine wN ?_ | ((with_reducible show evIs _ (_ :: _) _ _); first | refine wQ ?_ | refine wF ?_ | refine wG ?_ | refine wT ?_ | refine wM ?_ | refine wS ?_ | refine wP ?_))
            clear hF
            repeat refine evDone ?_
            try (show AW _ _ _ _ _)
            repeat refine AW.seq ?_
            refine AW.condF (by simp []) (by simp []) ?_
            refine AW.skip ⟨rfl, ?_⟩
            refine Fit.mk _ _ _ (by simp [hne, hne', hrn, wkA, hw, hb, hs, Coro.av, conv2, newEmp, convs_refl, convs, conv]) (by simp [hne, hne', hrn, wkA, hw, hb, hs, Coro.av, heapFit, newEmp, conv2s, conv2, convs_refl, convs, conv]) (by intro q hq; first | (simp at hq; done) | (simp at hq; omega) | (simp at hq; simp; omega))
          · have hF := And.intro (hne) (And.intro (hne') (And.intro (hnl) (And.intro (hb) (And.intro (hs) (Coro.av.eq_1)))))
            repeat (first | refine wD1 ?_ | refine wD2 ?_ | refine wE1 ?_ | refine wE2 ?_ | refine wN ?_ | ((with_reducible show evIs _ (_ :: _) _ _); first | refine wQ ?_ | refine wF ?_ | refine wG ?_ | refine wT ?_ | refine wM ?_ | refine wS ?_ | refine wP ?_))
            clear hF
            repeat refine evDone ?_
            try (show AW _ _ _ _ _)
            repeat refine AW.seq ?_
            refine AW.condT (by simp []) (by simp []) ?_
            refine AW.reg ?_
            have hF := And.intro (hne) (And.intro (hne') (And.intro (hnl) (And.intro (hb) (And.intro (hs) (Coro.av.eq_1)))))
            repeat (first | refine wD1 ?_ | refine wD2 ?_ | refine wE1 ?_ | refine wE2 ?_ | refine wN ?_ | ((with_reducible show evIs _ (_ :: _) _ _); first | refine wQ ?_ | refine wF ?_ | refine wG ?_ | refine wT ?_ | refine wM ?_ | refine wS ?_ | refine wP ?_))
            clear hF
            repeat refine evDone ?_
            try (show AW _ _ _ _ _)
            refine ⟨rfl, ?_⟩
            refine Fit.mk _ _ _ (by simp [hne, hne', hrn, wkA, hw, hb, hs, Coro.av, conv2, newEmp, convs_refl, convs, conv]) (by simp [hne, hne', hrn, wkA, hw, hb, hs, Coro.av, heapFit, newEmp, conv2s, conv2, convs_refl, convs, conv]) (by intro q hq; first | (simp at hq; done) | (simp at hq; omega) | (simp at hq; simp; omega))
        · have hF := And.intro (hne) (And.intro (hne') (And.intro (hnl) (And.intro (hs) (Coro.av.eq_1))))
          repeat (first | refine wD1 ?_ | refine wD2 ?_ | refine wE1 ?_ | refine wE2 ?_ | refine wN ?_ | ((with_reducible show evIs _ (_ :: _) _ _); first | refine wQ ?_ | refine wF ?_ | refine wG ?_ | refine wT ?_ | refine wM ?_ | refine wS ?_ | refine wP ?_))
          clear hF
          repeat refine evDone ?_
          try (show AW _ _ _ _ _)
          repeat refine AW.seq ?_
          refine AW.condF (by simp [hs]) (by simp [hs]) ?_
          refine AW.skip ⟨rfl, ?_⟩
          refine Fit.mk _ _ _ (by simp [hne, hne', hrn, wkA, hw, hs, Coro.av, conv2, newEmp, convs_refl, convs, conv]) (by simp [hne, hne', hrn, wkA, hw, hs, Coro.av, heapFit, newEmp, conv2s, conv2, convs_refl, convs, conv]) (by intro q hq; first | (simp at hq; done) | (simp at hq; omega) | (simp at hq; simp; omega))
      have hwa : wkA fs c = (wk fs c).av false := rfl
      generalize wk fs c = c' at hwa
      obtain ⟨st, frs, fu, ws, se, ky⟩ := c'
      simp only [Coro.av, ko_false] at hwa
      rw [hwa] at hpa ⊢
      have hby : (i + 1) * 88 ≤ 140737488355328 := by omega
      have hby2 : i + 1 ≤ 9223372036854775807 := by omega
      repeat refine AW.seq ?_
      refine AW.reg ?_
      have hF := And.intro (hne) (And.intro (hne') (And.intro (hnl) (And.intro (hpl) (And.intro (hby) (hby2)))))
      repeat (first | refine wD1 ?_ | refine wD2 ?_ | refine wE1 ?_ | refine wE2 ?_ | refine wN ?_ | ((with_reducible show evIs _ (_ :: _) _ _); first | refine wQ ?_ | refine wF ?_ | refine wG ?_ | refine wT ?_ | refine wM ?_ | refine wS ?_ | refine wP ?_))
      clear hF
      repeat refine evDone ?_
      try (show AW _ _ _ _ _)
      show AW _ _ _ _ _
      refine AW.reg ?_
      have hw : IntKind.i64.wrap ((i : Int) + 1) = (i : Int) + 1 := i64_in _ ⟨by omega, by omega⟩
      have hF := hw
      repeat (first | refine wD1 ?_ | refine wD2 ?_ | refine wE1 ?_ | refine wE2 ?_ | refine wN ?_ | ((with_reducible show evIs _ (_ :: _) _ _); first | refine wQ ?_ | refine wF ?_ | refine wG ?_ | refine wT ?_ | refine wM ?_ | refine wS ?_ | refine wP ?_))
      clear hF
      repeat refine evDone ?_
      try (show AW _ _ _ _ _)
      refine ⟨(i + 1, n + 60, n + 54), ⟨by dsimp only; omega, by dsimp only; omega, by dsimp only; omega, by dsimp only; omega⟩, by dsimp only; omega, ?_⟩
      refine Fit.mk _ _ _ (by simp [hw, hne, hne', hrn, hpl, hpa, conv2, newEmp, convs_refl, convs, conv]) (by simp [hw, hne, hne', hrn, hpl, hpa, heapFit, newEmp, conv2s, conv2, convs_refl, convs, conv]) (by intro q hq; first | (simp at hq; done) | (simp at hq; omega) | (simp at hq; simp; omega))
    · have hlt2 : ¬ (i : Int) < ks.length := by omega
      have hF := And.intro (hlt) (hlt2)
      repeat (first | refine wD1 ?_ | refine wD2 ?_ | refine wE1 ?_ | refine wE2 ?_ | refine wN ?_ | ((with_reducible show evIs _ (_ :: _) _ _); first | refine wQ ?_ | refine wF ?_ | refine wG ?_ | refine wT ?_ | refine wM ?_ | refine wS ?_ | refine wP ?_))
      clear hF
      repeat refine evDone ?_
      try (show AW _ _ _ _ _)
      repeat refine AW.seq ?_
      refine AW.condF (by simp []) (by simp []) ?_
      refine AW.exit ?_
      show AW _ _ _ _ _
      have hii : i = ks.length := by omega
      subst hii
      have ht : (ks.map (wkA fs)).take ks.length = ks.map (wkA fs) := List.take_of_length_le (by simp)
      repeat refine AW.seq ?_
      refine AW.reg ?_
      have hF := True.intro
      repeat (first | refine wD1 ?_ | refine wD2 ?_ | refine wE1 ?_ | refine wE2 ?_ | refine wN ?_ | ((with_reducible show evIs _ (_ :: _) _ _); first | refine wQ ?_ | refine wF ?_ | refine wG ?_ | refine wT ?_ | refine wM ?_ | refine wS ?_ | refine wP ?_))
      clear hF
      repeat refine evDone ?_
      try (show AW _ _ _ _ _)
      refine AW.ret (retI rfl ?_)
      simp [pre_full, ht, a15_res, resOk, resP, resV, ARes.op, R2s, R2, R1s, R1, closeOk, closeV]
theorem f43_step (m : Nat) (ih : ∀ v : Val, v.sz < m → v.okv → ∀ a, ACall Try.prog 43 [v.av false, .int .i64 a] (fun r => ∃ b, r = .int .i64 b ∧ True)) (v : Val) (hm : v.sz ≤ m) (hok : v.okv) (a : Int) : ACall Try.prog 43 [v.av false, .int .i64 a] (fun r => ∃ b, r = .int .i64 b ∧ True) := by
  obtain ⟨k, n, t, is, ks⟩ := v
  simp only [Val.av, Val.sz, Val.okv, ko_false] at hm hok ⊢
  refine a43_of (by simp) ?_
  repeat refine AW.seq ?_
  refine AW.reg ?_
  have hF := True.intro
  repeat (first | refine wD1 ?_ | refine wD2 ?_ | refine wE1 ?_ | refine wE2 ?_ | refine wN ?_ | ((with_reducible show evIs _ (_ :: _) _ _); first | refine wQ ?_ | refine wF ?_ | refine wG ?_ | refine wT ?_ | refine wM ?_ | refine wS ?_ | refine wP ?_))
  clear hF
  repeat refine evDone ?_
  try (show AW _ _ _ _ _)
  repeat refine AW.seq ?_
  refine AW.reg ?_
  have hF := True.intro
  repeat (first | refine wD1 ?_ | refine wD2 ?_ | refine wE1 ?_ | refine wE2 ?_ | refine wN ?_ | ((with_reducible show evIs _ (_ :: _) _ _); first | refine wQ ?_ | refine wF ?_ | refine wG ?_ | refine wT ?_ | refine wM ?_ | refine wS ?_ | refine wP ?_))
  clear hF
  repeat refine evDone ?_
  try (show AW _ _ _ _ _)
  repeat refine AW.seq ?_
  refine AW.reg ?_
  have hF := True.intro
  repeat (first | refine wD1 ?_ | refine wD2 ?_ | refine wE1 ?_ | refine wE2 ?_ | refine wN ?_ | ((with_reducible show evIs _ (_ :: _) _ _); first | refine wQ ?_ | refine wF ?_ | refine wG ?_ | refine wT ?_ | refine wM ?_ | refine wS ?_ | refine wP ?_))
  clear hF
  repeat refine evDone ?_
  try (show AW _ _ _ _ _)
  repeat refine AW.seq ?_
  refine AW.block ?_
  refine AW.loop (fun g : Nat × Int => g.1 ≤ is.length) (fun g => mkS [(2, .ptr 0 0 0), (1, .int .i64 g.2), (5, .int .i64 g.1)] [(0, ⟨5, true, [.agg [.int .i64 k, .int .i64 n, .str t, .sl .fro (avs false is), .sl .fro (ks.map .str)]]⟩)] 30) (fun g => is.length - g.1) (0, IntKind.i64.wrap (a - 1)) (by simp) ?_ ?_
  · refine Fit.mk _ _ _ (by simp [conv2, newEmp, convs_refl, convs, conv]) (by simp [heapFit, newEmp, conv2s, conv2, convs_refl, convs, conv]) (by intro q hq; first | (simp at hq; done) | (simp at hq; omega) | (simp at hq; simp; omega))
  · rintro ⟨i, b⟩ hi
    dsimp only at hi ⊢
    repeat refine AW.seq ?_
    refine AW.reg ?_
    by_cases hlt : i < is.length
    · by_cases hb : 0 ≤ b
      · have hF := And.intro (hlt) (hb)
        repeat (first | refine wD1 ?_ | refine wD2 ?_ | refine wE1 ?_ | refine wE2 ?_ | refine wN ?_ | ((with_reducible show evIs _ (_ :: _) _ _); first | refine wQ ?_ | refine wF ?_ | refine wG ?_ | refine wT ?_ | refine wM ?_ | refine wS ?_ | refine wP ?_))
        clear hF
        repeat refine evDone ?_
        try (show AW _ _ _ _ _)
        repeat refine AW.seq ?_
        refine AW.condT (by simp []) (by simp []) ?_
        refine AW.skip ?_
        show AW _ _ _ _ _
        refine AW.seq (AW.block ?_)
        have hx : ∃ x, is[i]? = some x := ⟨_, List.getElem?_eq_getElem hlt⟩
        obtain ⟨x, hx⟩ := hx
        have he := elem_map (f := Val.av false) hx
        rw [← avs_map] at he
        have hxm := List.mem_of_getElem? hx
        have hxo := okvs_mem hok.2.2 hxm
        have hxs := szs_mem hxm
        have hxc := ih x (by omega) hxo b
        obtain ⟨k', n', t', is', ks'⟩ := x
        simp only [Val.av, ko_false] at he hxc
        repeat refine AW.seq ?_
        refine AW.reg ?_
        have hF := And.intro (hlt) (he)
        repeat (first | refine wD1 ?_ | refine wD2 ?_ | refine wE1 ?_ | refine wE2 ?_ | refine wN ?_ | ((with_reducible show evIs _ (_ :: _) _ _); first | refine wQ ?_ | refine wF ?_ | refine wG ?_ | refine wT ?_ | refine wM ?_ | refine wS ?_ | refine wP ?_))
        clear hF
        repeat refine evDone ?_
        try (show AW _ _ _ _ _)
        have hF := True.intro
        refine wI (hA := hxc) ?_
        clear hF
        intro b' _
        have hF := True.intro
        repeat (first | refine wD1 ?_ | refine wD2 ?_ | refine wE1 ?_ | refine wE2 ?_ | refine wN ?_ | ((with_reducible show evIs _ (_ :: _) _ _); first | refine wQ ?_ | refine wF ?_ | refine wG ?_ | refine wT ?_ | refine wM ?_ | refine wS ?_ | refine wP ?_))
        clear hF
        repeat refine evDone ?_
        try (show AW _ _ _ _ _)
        refine AW.reg ?_
        have hw : IntKind.i64.wrap ((i : Int) + 1) = (i : Int) + 1 := i64_in _ ⟨by omega, by omega⟩
        have hF := hw
        repeat (first | refine wD1 ?_ | refine wD2 ?_ | refine wE1 ?_ | refine wE2 ?_ | refine wN ?_ | ((with_reducible show evIs _ (_ :: _) _ _); first | refine wQ ?_ | refine wF ?_ | refine wG ?_ | refine wT ?_ | refine wM ?_ | refine wS ?_ | refine wP ?_))
        clear hF
        repeat refine evDone ?_
        try (show AW _ _ _ _ _)
        refine ⟨(i + 1, b'), by dsimp only; omega, by dsimp only; omega, ?_⟩
        refine Fit.mk _ _ _ (by simp [hw, conv2, newEmp, convs_refl, convs, conv]) (by simp [hw, heapFit, newEmp, conv2s, conv2, convs_refl, convs, conv]) (by intro q hq; first | (simp at hq; done) | (simp at hq; omega) | (simp at hq; simp; omega))
      · have hF := And.intro (hlt) (hb)
        repeat (first | refine wD1 ?_ | refine wD2 ?_ | refine wE1 ?_ | refine wE2 ?_ | refine wN ?_ | ((with_reducible show evIs _ (_ :: _) _ _); first | refine wQ ?_ | refine wF ?_ | refine wG ?_ | refine wT ?_ | refine wM ?_ | refine wS ?_ | refine wP ?_))
        clear hF
        repeat refine evDone ?_
        try (show AW _ _ _ _ _)
        repeat refine AW.seq ?_
        refine AW.condF (by simp []) (by simp []) ?_
        refine AW.exit ?_
        show AW _ _ _ _ _
        repeat refine AW.seq ?_
        refine AW.reg ?_
        have hF := True.intro
        repeat (first | refine wD1 ?_ | refine wD2 ?_ | refine wE1 ?_ | refine wE2 ?_ | refine wN ?_ | ((with_reducible show evIs _ (_ :: _) _ _); first | refine wQ ?_ | refine wF ?_ | refine wG ?_ | refine wT ?_ | refine wM ?_ | refine wS ?_ | refine wP ?_))
        clear hF
        repeat refine evDone ?_
        try (show AW _ _ _ _ _)
        refine AW.ret (retI (r := .int .i64 b) ⟨_, rfl, trivial⟩ ?_)
        simp [a43_res, resOk, resP, resV, ARes.op, R2s, R2, R1s, R1, closeOk, closeV]
    · have hlt2 : ¬ (i : Int) < is.length := by omega
      have hF := And.intro (hlt) (hlt2)
      repeat (first | refine wD1 ?_ | refine wD2 ?_ | refine wE1 ?_ | refine wE2 ?_ | refine wN ?_ | ((with_reducible show evIs _ (_ :: _) _ _); first | refine wQ ?_ | refine wF ?_ | refine wG ?_ | refine wT ?_ | refine wM ?_ | refine wS ?_ | refine wP ?_))
      clear hF
      repeat refine evDone ?_
      try (show AW _ _ _ _ _)
      repeat refine AW.seq ?_
      refine AW.condF (by simp []) (by simp []) ?_
      refine AW.exit ?_
      show AW _ _ _ _ _
      repeat refine AW.seq ?_
      refine AW.reg ?_
      have hF := True.intro
      repeat (first | refine wD1 ?_ | refine wD2 ?_ | refine wE1 ?_ | refine wE2 ?_ | refine wN ?_ | ((with_reducible show evIs _ (_ :: _) _ _); first | refine wQ ?_ | refine wF ?_ | refine wG ?_ | refine wT ?_ | refine wM ?_ | refine wS ?_ | refine wP ?_))
      clear hF
      repeat refine evDone ?_
      try (show AW _ _ _ _ _)
      refine AW.ret (retI (r := .int .i64 b) ⟨_, rfl, trivial⟩ ?_)
      simp [a43_res, resOk, resP, resV, ARes.op, R2s, R2, R1s, R1, closeOk, closeV]
theorem f43 (v : Val) (hok : v.okv) (a : Int) : ACall Try.prog 43 [v.av false, .int .i64 a] (fun r => ∃ b, r = .int .i64 b ∧ True) := by
  have key : ∀ (m : Nat) (v : Val), v.sz ≤ m → v.okv → ∀ a, ACall Try.prog 43 [v.av false, .int .i64 a] (fun r => ∃ b, r = .int .i64 b ∧ True) := by
    intro m
    induction m using Nat.strongRecOn with
    | _ m ih => exact fun v hm hok => f43_step m (fun v' h ho => ih v'.sz h v' (Nat.le_refl _) ho) v hm hok
  exact key _ v (Nat.le_refl _) hok a
theorem f34 (v : Val) (hok : v.okv) (a : Int) : ACall Try.prog 34 [v.av false, .int .i64 a] (fun r => ∃ b, r = .bool b ∧ True) := by
  have h43 := f43 v hok a
  obtain ⟨k, n, t, is, ks⟩ := v
  simp only [Val.av, ko_false] at h43 ⊢
  refine a34_of (by simp) ?_
  repeat refine AW.seq ?_
  refine AW.reg ?_
  have hF := True.intro
  repeat (first | refine wD1 ?_ | refine wD2 ?_ | refine wE1 ?_ | refine wE2 ?_ | refine wN ?_ | ((with_reducible show evIs _ (_ :: _) _ _); first | refine wQ ?_ | refine wF ?_ | refine wG ?_ | refine wT ?_ | refine wM ?_ | refine wS ?_ | refine wP ?_))
  clear hF
  repeat refine evDone ?_
  try (show AW _ _ _ _ _)
  repeat refine AW.seq ?_
  refine AW.reg ?_
  have hF := True.intro
  repeat (first | refine wD1 ?_ | refine wD2 ?_ | refine wE1 ?_ | refine wE2 ?_ | refine wN ?_ | ((with_reducible show evIs _ (_ :: _) _ _); first | refine wQ ?_ | refine wF ?_ | refine wG ?_ | refine wT ?_ | refine wM ?_ | refine wS ?_ | refine wP ?_))
  clear hF
  repeat refine evDone ?_
  try (show AW _ _ _ _ _)
  have hF := True.intro
  refine wI (hA := h43) ?_
  clear hF
  intro b _
  have hF := True.intro
  repeat (first | refine wD1 ?_ | refine wD2 ?_ | refine wE1 ?_ | refine wE2 ?_ | refine wN ?_ | ((with_reducible show evIs _ (_ :: _) _ _); first | refine wQ ?_ | refine wF ?_ | refine wG ?_ | refine wT ?_ | refine wM ?_ | refine wS ?_ | refine wP ?_))
  clear hF
  repeat refine evDone ?_
  try (show AW _ _ _ _ _)
  refine AW.ret (retI (r := .bool (decide (0 ≤ b))) ⟨_, rfl, trivial⟩ ?_)
  simp [a34_res, resOk, resP, resV, ARes.op, R2s, R2, R1s, R1, closeOk, closeV]
end Go.Proofs.Ytnjdjahcepakgaa

set_option linter.unusedSimpArgs false
set_option linter.unusedVariables false
set_option maxHeartbeats 4000000
namespace Go.Proofs.Ytnjdjahcepakgaa
open Go Go.Amb Go.IntWalk

def uw (u : Undo) : Nat := u.args.length
def mw (m : Mark) : Nat := 1 + (m.undos.map uw).sum
def fw (f : Frame) : Nat := f.slots.length + f.stack.length + (f.marks.map mw).sum
def cw (c : Coro) : Nat := (c.frames.map fw).sum
theorem sum_drop {α : Type} (f : α → Nat) {xs : List α} {i : Nat} {x : α} (h : xs[i]? = some x) : ((xs.drop i).map f).sum = f x + ((xs.drop (i + 1)).map f).sum := by
  obtain ⟨hi, rfl⟩ := List.getElem?_eq_some_iff.1 h
  rw [List.drop_eq_getElem_cons hi, List.map_cons, List.sum_cons]
theorem avs_append (o : Bool) (a b : List Val) : avs o (a ++ b) = avs o a ++ avs o b := by simp [avs_map]
theorem okvs_append : ∀ {a b : List Val}, okvs a → okvs b → okvs (a ++ b)
  | [], _, _, h => h
  | _ :: _, _, h, k => ⟨h.1, okvs_append h.2 k⟩

section
variable (st fu : Int) (frs : List Frame) (ws : List Int) (se : Bool) (ky : ByteArray)
theorem f27_undos (i j mb n0 r0 : Nat) (acc0 : List Val) (us : List Undo) (kd tg sl ht vk vn : Int) (vt : ByteArray) (vi : List Val) (vs : List ByteArray) (hb : 15 ≤ mb) (hmn0 : mb < n0) (hr0 : r0 < n0) (hrm : r0 ≠ mb) (hbr0 : 15 ≤ r0) (hok : ∀ u ∈ us, u.ok) (hacc0 : okvs acc0) (hul : us.length ≤ 110)
    (hs : (acc0.length + (us.map uw).sum) * 80 ≤ 140737488355328) {Q : AE → St → Prop}
    (hQ : ∀ n r acc, r < n → 15 ≤ r → n0 ≤ n → acc.length = acc0.length + (us.map uw).sum → okvs acc → Q .normal (mkS [(1, .ptr 0 0 0), (3, .ptr 14 0 0), (4, .int .i64 i), (5, .int .i64 j)] [(0, ⟨6, true, [.agg [.int .i64 st, .sl .fro (frs.map (Frame.av false)), .int .i64 fu, .sl .fro (ws.map (AV.int .i64)), .bool se, .str ky]]⟩), (14, ⟨5, true, [.agg [.int .i64 0, .int .i64 0, .str ⟨#[]⟩, .hdr r 0 acc.length, .sl .ext []]]⟩), (r, ⟨5, false, avs false acc⟩)] n)) :
    AW Try.prog 96 (.block 4 (.loop a27_l0)) (mkS [(1, .ptr 0 0 0), (3, .ptr 14 0 0), (4, .int .i64 i), (5, .int .i64 j), (6, .ptr mb 0 0), (7, .int .i64 0)] [(0, ⟨6, true, [.agg [.int .i64 st, .sl .fro (frs.map (Frame.av false)), .int .i64 fu, .sl .fro (ws.map (AV.int .i64)), .bool se, .str ky]]⟩), (14, ⟨5, true, [.agg [.int .i64 0, .int .i64 0, .str ⟨#[]⟩, .hdr r0 0 acc0.length, .sl .ext []]]⟩), (r0, ⟨5, false, avs false acc0⟩), (mb, ⟨10, true, [.agg [.int .i64 kd, .int .i64 tg, .int .i64 sl, .int .i64 ht, .sl .fro (us.map (Undo.av false)), .int .i64 vk, .int .i64 vn, .str vt, .sl .fro (avs false vi), .sl .fro (vs.map .str)]]⟩)] n0) Q := by
  refine AW.out ?_
  refine AW.block ?_
  refine AW.loop (fun g : Nat × Nat × Nat × List Val => g.1 ≤ us.length ∧ g.2.2.1 < g.2.1 ∧ 15 ≤ g.2.2.1 ∧ g.2.2.1 ≠ mb ∧ n0 ≤ g.2.1 ∧ okvs g.2.2.2 ∧ g.2.2.2.length + ((us.drop g.1).map uw).sum = acc0.length + (us.map uw).sum) (fun g => mkS [(1, .ptr 0 0 0), (3, .ptr 14 0 0), (4, .int .i64 i), (5, .int .i64 j), (6, .ptr mb 0 0), (7, .int .i64 g.1)] [(0, ⟨6, true, [.agg [.int .i64 st, .sl .fro (frs.map (Frame.av false)), .int .i64 fu, .sl .fro (ws.map (AV.int .i64)), .bool se, .str ky]]⟩), (14, ⟨5, true, [.agg [.int .i64 0, .int .i64 0, .str ⟨#[]⟩, .hdr g.2.2.1 0 g.2.2.2.length, .sl .ext []]]⟩), (g.2.2.1, ⟨5, false, avs false g.2.2.2⟩), (mb, ⟨10, true, [.agg [.int .i64 kd, .int .i64 tg, .int .i64 sl, .int .i64 ht, .sl .fro (us.map (Undo.av false)), .int .i64 vk, .int .i64 vn, .str vt, .sl .fro (avs false vi), .sl .fro (vs.map .str)]]⟩)] g.2.1) (fun g => us.length - g.1) (0, n0, r0, acc0) ⟨by simp, hr0, hbr0, hrm, Nat.le_refl _, hacc0, by simp⟩ (Fit.refl _) ?_
  rintro ⟨k, n, r, acc⟩ ⟨hk, hr, hbr, hrmb, hnn, hacc, hsum⟩
  dsimp only at hk hr hbr hrmb hnn hacc hsum ⊢
  have hne : ∀ k, (r = n + k) = False := fun k => eq_false (by omega)
  have hne' : ∀ k, (n + k = r) = False := fun k => eq_false (by omega)
  have hnl : ∀ k, (n + k < n) = False := fun k => eq_false (by omega)
  have hrn : ∀ k, r < n + k := fun k => by omega
  have hl0 : (r = 0) = False := eq_false (by omega)
  have hm0 : (0 = r) = False := eq_false (by omega)
  have hl14 : (r = 14) = False := eq_false (by omega)
  have hm14 : (14 = r) = False := eq_false (by omega)
  have hn14 : ∀ k, (14 = n + k) = False := fun k => eq_false (by omega)
  have hn14' : ∀ k, (n + k = 14) = False := fun k => eq_false (by omega)
  have hn0 : ∀ k, (0 = n + k) = False := fun k => eq_false (by omega)
  have hn0' : ∀ k, (n + k = 0) = False := fun k => eq_false (by omega)
  have hb0 : ∀ k, 0 < n + k := fun k => by omega
  have hb14 : ∀ k, 14 < n + k := fun k => by omega
  have hc0 : 0 < n := by omega
  have hc14 : 14 < n := by omega
  have hmb : (r = mb) = False := eq_false (by omega)
  have hmb' : (mb = r) = False := eq_false (by omega)
  have hmn : ∀ k, (mb = n + k) = False := fun k => eq_false (by omega)
  have hmn' : ∀ k, (n + k = mb) = False := fun k => eq_false (by omega)
  have hmb0 : (mb = 0) = False := eq_false (by omega)
  have hmb0' : (0 = mb) = False := eq_false (by omega)
  have hmb14 : (mb = 14) = False := eq_false (by omega)
  have hmb14' : (14 = mb) = False := eq_false (by omega)
  have hmbn : ∀ k, mb < n + k := fun k => by omega
  repeat refine AW.seq ?_
  refine AW.reg ?_
  by_cases hlt : k < us.length
  · obtain ⟨u, hu⟩ : ∃ u, us[k]? = some u := ⟨_, List.getElem?_eq_getElem hlt⟩
    have hue := elem_map (f := Undo.av false) hu
    obtain ⟨huo1, huo2⟩ := hok u (List.mem_of_getElem? hu)
    have hsd := sum_drop uw hu
    simp only [Undo.av, ko_false] at hue
    simp only [uw] at hsd
    have hx1 : ∀ x ∈ avs false u.args, (cellsOf x).length = 5 := av_len false u.args
    have hsum' := hsum
    rw [show ((us.drop k).map uw).sum = u.args.length + ((us.drop (k + 1)).map uw).sum from hsd] at hsum'
    have hby : (acc.length + u.args.length) * 80 ≤ 140737488355328 := by omega
    have hby2 : acc.length + u.args.length ≤ 9223372036854775807 := by omega
    have hF := And.intro (hlt) (And.intro (hne) (And.intro (hne') (And.intro (hnl) (And.intro (hl0) (And.intro (hm0) (And.intro (hl14) (And.intro (hm14) (And.intro (hn14) (And.intro (hn14') (And.intro (hn0) (And.intro (hn0') (And.intro (hr) (And.intro (hmb) (And.intro (hmb') (And.intro (hmn) (And.intro (hmn') (And.intro (hmb0) (And.intro (hmb0') (And.intro (hmb14) (hmb14'))))))))))))))))))))
    repeat (first | refine wD1 ?_ | refine wD2 ?_ | refine wE1 ?_ | refine wE2 ?_ | refine wN ?_ | ((with_reducible show evIs _ (_ :: _) _ _); first | refine wQ ?_ | refine wF ?_ | refine wG ?_ | refine wT ?_ | refine wM ?_ | refine wS ?_ | refine wP ?_))
    clear hF
    repeat refine evDone ?_
    try (show AW _ _ _ _ _)
    repeat refine AW.seq ?_
    refine AW.condT (by simp []) (by simp []) ?_
    refine AW.skip ?_
    show AW _ _ _ _ _
    refine AW.seq (AW.block ?_)
    repeat refine AW.seq ?_
    refine AW.draw ?_
    have hF := And.intro (hlt) (And.intro (hue) (And.intro (hne) (And.intro (hne') (And.intro (hnl) (And.intro (hl0) (And.intro (hm0) (And.intro (hl14) (And.intro (hm14) (And.intro (hn14) (And.intro (hn14') (And.intro (hn0) (And.intro (hn0') (And.intro (hr) (And.intro (hmb) (And.intro (hmb') (And.intro (hmn) (And.intro (hmn') (And.intro (hmb0) (And.intro (hmb0') (And.intro (hmb14) (And.intro (hmb14') (And.intro (hby) (And.intro (hby2) (eq_true hx1))))))))))))))))))))))))
    repeat (first | refine wD1 ?_ | refine wD2 ?_ | refine wE1 ?_ | refine wE2 ?_ | refine wN ?_ | ((with_reducible show evIs _ (_ :: _) _ _); first | refine wQ ?_ | refine wF ?_ | refine wG ?_ | refine wT ?_ | refine wM ?_ | refine wS ?_ | refine wP ?_))
    clear hF
    repeat refine evDone ?_
    try (show AW _ _ _ _ _)
    refine AW.reg ?_
    have hw : IntKind.i64.wrap ((k : Int) + 1) = (k : Int) + 1 := i64_in _ ⟨by omega, by omega⟩
    have hF := hw
    repeat (first | refine wD1 ?_ | refine wD2 ?_ | refine wE1 ?_ | refine wE2 ?_ | refine wN ?_ | ((with_reducible show evIs _ (_ :: _) _ _); first | refine wQ ?_ | refine wF ?_ | refine wG ?_ | refine wT ?_ | refine wM ?_ | refine wS ?_ | refine wP ?_))
    clear hF
    repeat refine evDone ?_
    try (show AW _ _ _ _ _)
    refine ⟨(k + 1, n + 120, n + 92, acc ++ u.args), ⟨by dsimp only; omega, by dsimp only; omega, by dsimp only; omega, by dsimp only; omega, by dsimp only; omega, okvs_append hacc huo1, by simp only [List.length_append]; omega⟩, by dsimp only; omega, ?_⟩
    refine Fit.mk _ _ _ (by simp [hw, avs_append, hmbn, hne, hne', hnl, hl0, hm0, hl14, hm14, hn14, hn14', hn0, hn0', hrn, hb0, hb14, hc0, hc14, hr, hmb, hmb', hmn, hmn', hmb0, hmb0', hmb14, hmb14', conv2, newEmp, convs_refl, convs, conv]) (by simp [hw, avs_append, hmbn, hne, hne', hnl, hl0, hm0, hl14, hm14, hn14, hn14', hn0, hn0', hrn, hb0, hb14, hc0, hc14, hr, hmb, hmb', hmn, hmn', hmb0, hmb0', hmb14, hmb14', heapFit, newEmp, conv2s, conv2, convs_refl, convs, conv]) (by intro q hq; first | (simp at hq; done) | (simp at hq; omega) | (simp at hq; simp; omega))
  · have hlt2 : ¬ (k : Int) < us.length := by omega
    have hF := And.intro (hlt) (And.intro (hlt2) (And.intro (hne) (And.intro (hne') (And.intro (hnl) (And.intro (hl0) (And.intro (hm0) (And.intro (hl14) (And.intro (hm14) (And.intro (hn14) (And.intro (hn14') (And.intro (hn0) (And.intro (hn0') (And.intro (hr) (And.intro (hmb) (And.intro (hmb') (And.intro (hmn) (And.intro (hmn') (And.intro (hmb0) (And.intro (hmb0') (And.intro (hmb14) (hmb14')))))))))))))))))))))
    repeat (first | refine wD1 ?_ | refine wD2 ?_ | refine wE1 ?_ | refine wE2 ?_ | refine wN ?_ | ((with_reducible show evIs _ (_ :: _) _ _); first | refine wQ ?_ | refine wF ?_ | refine wG ?_ | refine wT ?_ | refine wM ?_ | refine wS ?_ | refine wP ?_))
    clear hF
    repeat refine evDone ?_
    try (show AW _ _ _ _ _)
    repeat refine AW.seq ?_
    refine AW.condF (by simp []) (by simp []) ?_
    refine AW.exit ?_
    have hkk : k = us.length := by omega
    subst hkk
    refine ⟨_, ?_, hQ n r acc hr hbr hnn (by simpa using hsum) hacc⟩
    refine Fit.mk _ _ _ (by simp [hne, hne', hnl, hl0, hm0, hl14, hm14, hn14, hn14', hn0, hn0', hrn, hb0, hb14, hc0, hc14, hr, hmb, hmb', hmn, hmn', hmb0, hmb0', hmb14, hmb14', conv2, newEmp, convs_refl, convs, conv]) (by simp [hne, hne', hnl, hl0, hm0, hl14, hm14, hn14, hn14', hn0, hn0', hrn, hb0, hb14, hc0, hc14, hr, hmb, hmb', hmn, hmn', hmb0, hmb0', hmb14, hmb14', heapFit, newEmp, conv2s, conv2, convs_refl, convs, conv]) (by intro q hq; first | (simp at hq; done) | (simp at hq; omega) | (simp at hq; simp; omega))

theorem f27_marks (i n0 r0 : Nat) (f : Frame) (hf : frs[i]? = some f) (acc0 : List Val) (hr0 : r0 < n0) (hbr0 : 15 ≤ r0) (hok : ∀ m ∈ f.marks, m.ok) (hml : f.marks.length * 136 ≤ 140737488355328) (hacc0 : okvs acc0) (hs : (acc0.length + (f.marks.map mw).sum) * 80 ≤ 140737488355328) {Q : AE → St → Prop}
    (hR : ∀ s, resOk s a27_res (.bool false) → Q .ret s)
    (hQ : ∀ n r acc, r < n → 15 ≤ r → acc.length = acc0.length + (f.marks.map mw).sum → okvs acc → Q .normal (mkS [(1, .ptr 0 0 0), (3, .ptr 14 0 0), (4, .int .i64 i)] [(0, ⟨6, true, [.agg [.int .i64 st, .sl .fro (frs.map (Frame.av false)), .int .i64 fu, .sl .fro (ws.map (AV.int .i64)), .bool se, .str ky]]⟩), (14, ⟨5, true, [.agg [.int .i64 0, .int .i64 0, .str ⟨#[]⟩, .hdr r 0 acc.length, .sl .ext []]]⟩), (r, ⟨5, false, avs false acc⟩)] n)) :
    AW Try.prog 96 (.block 2 (.loop a27_l1)) (mkS [(1, .ptr 0 0 0), (3, .ptr 14 0 0), (4, .int .i64 i), (5, .int .i64 0)] [(0, ⟨6, true, [.agg [.int .i64 st, .sl .fro (frs.map (Frame.av false)), .int .i64 fu, .sl .fro (ws.map (AV.int .i64)), .bool se, .str ky]]⟩), (14, ⟨5, true, [.agg [.int .i64 0, .int .i64 0, .str ⟨#[]⟩, .hdr r0 0 acc0.length, .sl .ext []]]⟩), (r0, ⟨5, false, avs false acc0⟩)] n0) Q := by
  have hfi := (List.getElem?_eq_some_iff.1 hf).1
  have he := elem_map (f := Frame.av false) hf
  simp only [Frame.av, ko_false] at he
  refine AW.out ?_
  refine AW.block ?_
  refine AW.loop (fun g : Nat × Nat × Nat × List Val => g.1 ≤ f.marks.length ∧ g.2.2.1 < g.2.1 ∧ 15 ≤ g.2.2.1 ∧ okvs g.2.2.2 ∧ g.2.2.2.length + ((f.marks.drop g.1).map mw).sum = acc0.length + (f.marks.map mw).sum) (fun g => mkS [(1, .ptr 0 0 0), (3, .ptr 14 0 0), (4, .int .i64 i), (5, .int .i64 g.1)] [(0, ⟨6, true, [.agg [.int .i64 st, .sl .fro (frs.map (Frame.av false)), .int .i64 fu, .sl .fro (ws.map (AV.int .i64)), .bool se, .str ky]]⟩), (14, ⟨5, true, [.agg [.int .i64 0, .int .i64 0, .str ⟨#[]⟩, .hdr g.2.2.1 0 g.2.2.2.length, .sl .ext []]]⟩), (g.2.2.1, ⟨5, false, avs false g.2.2.2⟩)] g.2.1) (fun g => f.marks.length - g.1) (0, n0, r0, acc0) ⟨by simp, hr0, hbr0, hacc0, by simp⟩ (Fit.refl _) ?_
  rintro ⟨j, n, r, acc⟩ ⟨hj, hr, hbr, hacc, hsum⟩
  dsimp only at hj hr hbr hacc hsum ⊢
  have hne : ∀ k, (r = n + k) = False := fun k => eq_false (by omega)
  have hne' : ∀ k, (n + k = r) = False := fun k => eq_false (by omega)
  have hnl : ∀ k, (n + k < n) = False := fun k => eq_false (by omega)
  have hrn : ∀ k, r < n + k := fun k => by omega
  have hl0 : (r = 0) = False := eq_false (by omega)
  have hm0 : (0 = r) = False := eq_false (by omega)
  have hl14 : (r = 14) = False := eq_false (by omega)
  have hm14 : (14 = r) = False := eq_false (by omega)
  have hn14 : ∀ k, (14 = n + k) = False := fun k => eq_false (by omega)
  have hn14' : ∀ k, (n + k = 14) = False := fun k => eq_false (by omega)
  have hn0 : ∀ k, (0 = n + k) = False := fun k => eq_false (by omega)
  have hn0' : ∀ k, (n + k = 0) = False := fun k => eq_false (by omega)
  have hb0 : ∀ k, 0 < n + k := fun k => by omega
  have hb14 : ∀ k, 14 < n + k := fun k => by omega
  have hc0 : 0 < n := by omega
  have hc14 : 14 < n := by omega
  repeat refine AW.seq ?_
  refine AW.reg ?_
  by_cases hlt : j < f.marks.length
  · obtain ⟨x, hx⟩ : ∃ x, f.marks[j]? = some x := ⟨_, List.getElem?_eq_getElem hlt⟩
    have he2 := elem_map (f := Mark.av false) hx
    obtain ⟨hm1, hm2, hm3⟩ := hok x (List.mem_of_getElem? hx)
    have hsd := sum_drop mw hx
    obtain ⟨kd, tg, sl, ht, us, ⟨vk, vn, vt, vi, vs⟩⟩ := x
    simp only [Mark.av, Val.cells, Val.av, cellsOf, ko_false, List.cons_append, List.nil_append] at he2 hm1 hm2
    have hsum' := hsum
    rw [hsd] at hsum'
    simp only [mw] at hsum'
    generalize hrM : ((f.marks.drop (j + 1)).map mw).sum = rM at hsum'
    have hby : (acc.length + 1) * 80 ≤ 140737488355328 := by omega
    have hby2 : acc.length + 1 ≤ 9223372036854775807 := by omega
    have hF := And.intro (hlt) (And.intro (hfi) (And.intro (he) (And.intro (hne) (And.intro (hne') (And.intro (hnl) (And.intro (hl0) (And.intro (hm0) (And.intro (hl14) (And.intro (hm14) (And.intro (hn14) (And.intro (hn14') (And.intro (hn0) (And.intro (hn0') (hr))))))))))))))
    repeat (first | refine wD1 ?_ | refine wD2 ?_ | refine wE1 ?_ | refine wE2 ?_ | refine wN ?_ | ((with_reducible show evIs _ (_ :: _) _ _); first | refine wQ ?_ | refine wF ?_ | refine wG ?_ | refine wT ?_ | refine wM ?_ | refine wS ?_ | refine wP ?_))
    clear hF
    repeat refine evDone ?_
    try (show AW _ _ _ _ _)
    repeat refine AW.seq ?_
    refine AW.condT (by simp []) (by simp []) ?_
    refine AW.skip ?_
    show AW _ _ _ _ _
    refine AW.seq (AW.block ?_)
    repeat refine AW.seq ?_
    refine AW.reg ?_
    have hF := And.intro (hlt) (And.intro (hfi) (And.intro (he) (And.intro (he2) (And.intro (hne) (And.intro (hne') (And.intro (hnl) (And.intro (hl0) (And.intro (hm0) (And.intro (hl14) (And.intro (hm14) (And.intro (hn14) (And.intro (hn14') (And.intro (hn0) (And.intro (hn0') (hr)))))))))))))))
    repeat (first | refine wD1 ?_ | refine wD2 ?_ | refine wE1 ?_ | refine wE2 ?_ | refine wN ?_ | ((with_reducible show evIs _ (_ :: _) _ _); first | refine wQ ?_ | refine wF ?_ | refine wG ?_ | refine wT ?_ | refine wM ?_ | refine wS ?_ | refine wP ?_))
    clear hF
    repeat refine evDone ?_
    try (show AW _ _ _ _ _)
    repeat refine AW.seq ?_
    refine AW.reg ?_
    have hF := And.intro (hne) (And.intro (hne') (And.intro (hnl) (And.intro (hl0) (And.intro (hm0) (And.intro (hl14) (And.intro (hm14) (And.intro (hn14) (And.intro (hn14') (And.intro (hn0) (And.intro (hn0') (And.intro (hr) (And.intro (hby) (hby2)))))))))))))
    repeat (first | refine wD1 ?_ | refine wD2 ?_ | refine wE1 ?_ | refine wE2 ?_ | refine wN ?_ | ((with_reducible show evIs _ (_ :: _) _ _); first | refine wQ ?_ | refine wF ?_ | refine wG ?_ | refine wT ?_ | refine wM ?_ | refine wS ?_ | refine wP ?_))
    clear hF
    repeat refine evDone ?_
    try (show AW _ _ _ _ _)
    repeat refine AW.seq ?_
    refine AW.reg ?_
    by_cases hbig : us.length ≤ 110
    · have hbig' : ¬ (110 : Int) < us.length := by omega
      have hF := And.intro (hbig') (And.intro (hne) (And.intro (hne') (And.intro (hnl) (And.intro (hl0) (And.intro (hm0) (And.intro (hl14) (And.intro (hm14) (And.intro (hn14) (And.intro (hn14') (And.intro (hn0) (And.intro (hn0') (hr))))))))))))
      repeat (first | refine wD1 ?_ | refine wD2 ?_ | refine wE1 ?_ | refine wE2 ?_ | refine wN ?_ | ((with_reducible show evIs _ (_ :: _) _ _); first | refine wQ ?_ | refine wF ?_ | refine wG ?_ | refine wT ?_ | refine wM ?_ | refine wS ?_ | refine wP ?_))
      clear hF
      repeat refine evDone ?_
      try (show AW _ _ _ _ _)
      repeat refine AW.seq ?_
      refine AW.condF (by simp []) (by simp []) ?_
      refine AW.skip ?_
      show AW _ _ _ _ _
      repeat refine AW.seq ?_
      refine AW.reg ?_
      have hF := And.intro (hne) (And.intro (hne') (And.intro (hnl) (And.intro (hl0) (And.intro (hm0) (And.intro (hl14) (And.intro (hm14) (And.intro (hn14) (And.intro (hn14') (And.intro (hn0) (And.intro (hn0') (hr)))))))))))
      repeat (first | refine wD1 ?_ | refine wD2 ?_ | refine wE1 ?_ | refine wE2 ?_ | refine wN ?_ | ((with_reducible show evIs _ (_ :: _) _ _); first | refine wQ ?_ | refine wF ?_ | refine wG ?_ | refine wT ?_ | refine wM ?_ | refine wS ?_ | refine wP ?_))
      clear hF
      repeat refine evDone ?_
      try (show AW _ _ _ _ _)
      refine AW.fit (st' := mkS [(1, .ptr 0 0 0), (3, .ptr 14 0 0), (4, .int .i64 i), (5, .int .i64 j), (6, .ptr (n + 63) 0 0), (7, .int .i64 0)] [(0, ⟨6, true, [.agg [.int .i64 st, .sl .fro (frs.map (Frame.av false)), .int .i64 fu, .sl .fro (ws.map (AV.int .i64)), .bool se, .str ky]]⟩), (14, ⟨5, true, [.agg [.int .i64 0, .int .i64 0, .str ⟨#[]⟩, .hdr (n + 70) 0 (acc ++ [Val.mk vk vn vt vi vs]).length, .sl .ext []]]⟩), ((n + 70), ⟨5, false, avs false (acc ++ [Val.mk vk vn vt vi vs])⟩), (n + 63, ⟨10, true, [.agg [.int .i64 kd, .int .i64 tg, .int .i64 sl, .int .i64 ht, .sl .fro (us.map (Undo.av false)), .int .i64 vk, .int .i64 vn, .str vt, .sl .fro (avs false vi), .sl .fro (vs.map .str)]]⟩)] (n + 100)) ?_ ?_
      · refine Fit.mk _ _ _ (by simp [avs_append, avs, Val.av, hne, hne', hnl, hl0, hm0, hl14, hm14, hn14, hn14', hn0, hn0', hrn, hb0, hb14, hc0, hc14, hr, conv2, newEmp, convs_refl, convs, conv]) (by simp [avs_append, avs, Val.av, hne, hne', hnl, hl0, hm0, hl14, hm14, hn14, hn14', hn0, hn0', hrn, hb0, hb14, hc0, hc14, hr, heapFit, newEmp, conv2s, conv2, convs_refl, convs, conv]) (by intro q hq; first | (simp at hq; done) | (simp at hq; omega) | (simp at hq; simp; omega))
      refine f27_undos st fu frs ws se ky i j (n + 63) (n + 100) (n + 70) (acc ++ [Val.mk vk vn vt vi vs]) us kd tg sl ht vk vn vt vi vs (by omega) (by omega) (by omega) (by omega) (by omega) hm2 (okvs_append hacc ⟨hm3, trivial⟩) hbig (by simp only [List.length_append, List.length_cons, List.length_nil]; omega) ?_
      intro n' r' acc' h1 h2 h3 h4 h5
      show AW _ _ _ _ _
      refine AW.reg ?_
      have hw : IntKind.i64.wrap ((j : Int) + 1) = (j : Int) + 1 := i64_in _ ⟨by omega, by omega⟩
      have hF := hw
      repeat (first | refine wD1 ?_ | refine wD2 ?_ | refine wE1 ?_ | refine wE2 ?_ | refine wN ?_ | ((with_reducible show evIs _ (_ :: _) _ _); first | refine wQ ?_ | refine wF ?_ | refine wG ?_ | refine wT ?_ | refine wM ?_ | refine wS ?_ | refine wP ?_))
      clear hF
      repeat refine evDone ?_
      try (show AW _ _ _ _ _)
      have hk0 : 0 < n' := by omega
      have hk14 : 14 < n' := by omega
      have hq0 : (r' = 0) = False := eq_false (by omega)
      have hq14 : (r' = 14) = False := eq_false (by omega)
      simp only [List.length_append, List.length_cons, List.length_nil] at h4
      refine ⟨(j + 1, n', r', acc'), ⟨by dsimp only; omega, h1, h2, h5, by dsimp only; omega⟩, by dsimp only; omega, ?_⟩
      refine Fit.mk _ _ _ (by simp [hw, hk0, hk14, h1, hq0, hq14, conv2, newEmp, convs_refl, convs, conv]) (by simp [hw, hk0, hk14, h1, hq0, hq14, heapFit, newEmp, conv2s, conv2, convs_refl, convs, conv]) (by intro q hq; first | (simp at hq; done) | (simp at hq; omega) | (simp at hq; simp; omega))
    · have hbig' : (110 : Int) < us.length := by omega
      have hF := And.intro (hbig') (And.intro (hne) (And.intro (hne') (And.intro (hnl) (And.intro (hl0) (And.intro (hm0) (And.intro (hl14) (And.intro (hm14) (And.intro (hn14) (And.intro (hn14') (And.intro (hn0) (And.intro (hn0') (hr))))))))))))
      repeat (first | refine wD1 ?_ | refine wD2 ?_ | refine wE1 ?_ | refine wE2 ?_ | refine wN ?_ | ((with_reducible show evIs _ (_ :: _) _ _); first | refine wQ ?_ | refine wF ?_ | refine wG ?_ | refine wT ?_ | refine wM ?_ | refine wS ?_ | refine wP ?_))
      clear hF
      repeat refine evDone ?_
      try (show AW _ _ _ _ _)
      repeat refine AW.seq ?_
      refine AW.condT (by simp []) (by simp []) ?_
      repeat refine AW.seq ?_
      refine AW.reg ?_
      have hF := True.intro
      repeat (first | refine wD1 ?_ | refine wD2 ?_ | refine wE1 ?_ | refine wE2 ?_ | refine wN ?_ | ((with_reducible show evIs _ (_ :: _) _ _); first | refine wQ ?_ | refine wF ?_ | refine wG ?_ | refine wT ?_ | refine wM ?_ | refine wS ?_ | refine wP ?_))
      clear hF
      repeat refine evDone ?_
      try (show AW _ _ _ _ _)
      refine AW.ret ⟨_, Fit.refl _, hR _ ?_⟩
      simp [resOk, resP, resV, ARes.op, R2s, R2, R1s, R1, closeOk, closeV, a27_res]
  · have hlt2 : ¬ (j : Int) < f.marks.length := by omega
    have hF := And.intro (hlt) (And.intro (hfi) (And.intro (he) (And.intro (hlt2) (And.intro (hne) (And.intro (hne') (And.intro (hnl) (And.intro (hl0) (And.intro (hm0) (And.intro (hl14) (And.intro (hm14) (And.intro (hn14) (And.intro (hn14') (And.intro (hn0) (And.intro (hn0') (hr)))))))))))))))
    repeat (first | refine wD1 ?_ | refine wD2 ?_ | refine wE1 ?_ | refine wE2 ?_ | refine wN ?_ | ((with_reducible show evIs _ (_ :: _) _ _); first | refine wQ ?_ | refine wF ?_ | refine wG ?_ | refine wT ?_ | refine wM ?_ | refine wS ?_ | refine wP ?_))
    clear hF
    repeat refine evDone ?_
    try (show AW _ _ _ _ _)
    repeat refine AW.seq ?_
    refine AW.condF (by simp []) (by simp []) ?_
    refine AW.exit ?_
    have hjj : j = f.marks.length := by omega
    subst hjj
    refine ⟨_, ?_, hQ n r acc hr hbr (by simpa using hsum) hacc⟩
    refine Fit.mk _ _ _ (by simp [hne, hne', hnl, hl0, hm0, hl14, hm14, hn14, hn14', hn0, hn0', hrn, hb0, hb14, hc0, hc14, hr, conv2, newEmp, convs_refl, convs, conv]) (by simp [hne, hne', hnl, hl0, hm0, hl14, hm14, hn14, hn14', hn0, hn0', hrn, hb0, hb14, hc0, hc14, hr, heapFit, newEmp, conv2s, conv2, convs_refl, convs, conv]) (by intro q hq; first | (simp at hq; done) | (simp at hq; omega) | (simp at hq; simp; omega))
end

theorem f27 (c : Coro) (hok : c.ok) (hs : cw c * 80 ≤ 140737488355328) : ACall Try.prog 27 [.agg [.int .i64 c.state, .sl .fro (c.frames.map (Frame.av false)), .int .i64 c.future, .sl .fro (c.waits.map (AV.int .i64)), .bool c.select, .str c.key]] (fun r => ∃ b, r = .bool b ∧ True) := by
  obtain ⟨st, frs, fu, ws, se, ky⟩ := c
  obtain ⟨ho1, ho2, ho3⟩ := hok
  simp only [cw] at ho1 ho2 ho3 hs ⊢
  refine a27_of (by simp) ?_
  repeat refine AW.seq ?_
  refine AW.reg ?_
  have hF := True.intro
  repeat (first | refine wD1 ?_ | refine wD2 ?_ | refine wE1 ?_ | refine wE2 ?_ | refine wN ?_ | ((with_reducible show evIs _ (_ :: _) _ _); first | refine wQ ?_ | refine wF ?_ | refine wG ?_ | refine wT ?_ | refine wM ?_ | refine wS ?_ | refine wP ?_))
  clear hF
  repeat refine evDone ?_
  try (show AW _ _ _ _ _)
  repeat refine AW.seq ?_
  refine AW.reg ?_
  by_cases hbig : 60 < frs.length ∨ 20 < ws.length
  · by_cases hb1 : 60 < frs.length
    · have hb1' : (60 : Int) < frs.length := by omega
      have hF := hb1'
      repeat (first | refine wD1 ?_ | refine wD2 ?_ | refine wE1 ?_ | refine wE2 ?_ | refine wN ?_ | ((with_reducible show evIs _ (_ :: _) _ _); first | refine wQ ?_ | refine wF ?_ | refine wG ?_ | refine wT ?_ | refine wM ?_ | refine wS ?_ | refine wP ?_))
      clear hF
      repeat refine evDone ?_
      try (show AW _ _ _ _ _)
      repeat refine AW.seq ?_
      refine AW.condT (by simp []) (by simp []) ?_
      repeat refine AW.seq ?_
      refine AW.reg ?_
      have hF := True.intro
      repeat (first | refine wD1 ?_ | refine wD2 ?_ | refine wE1 ?_ | refine wE2 ?_ | refine wN ?_ | ((with_reducible show evIs _ (_ :: _) _ _); first | refine wQ ?_ | refine wF ?_ | refine wG ?_ | refine wT ?_ | refine wM ?_ | refine wS ?_ | refine wP ?_))
      clear hF
      repeat refine evDone ?_
      try (show AW _ _ _ _ _)
      refine AW.ret (retI (r := .bool false) ⟨_, rfl, trivial⟩ ?_)
      simp [a27_res, resOk, resP, resV, ARes.op, R2s, R2, R1s, R1, closeOk, closeV]
    · have hb1' : ¬ (60 : Int) < frs.length := by omega
      have hb2' : (20 : Int) < ws.length := by omega
      have hF := And.intro (hb1') (hb2')
      repeat (first | refine wD1 ?_ | refine wD2 ?_ | refine wE1 ?_ | refine wE2 ?_ | refine wN ?_ | ((with_reducible show evIs _ (_ :: _) _ _); first | refine wQ ?_ | refine wF ?_ | refine wG ?_ | refine wT ?_ | refine wM ?_ | refine wS ?_ | refine wP ?_))
      clear hF
      repeat refine evDone ?_
      try (show AW _ _ _ _ _)
      repeat refine AW.seq ?_
      refine AW.condT (by simp []) (by simp []) ?_
      repeat refine AW.seq ?_
      refine AW.reg ?_
      have hF := True.intro
      repeat (first | refine wD1 ?_ | refine wD2 ?_ | refine wE1 ?_ | refine wE2 ?_ | refine wN ?_ | ((with_reducible show evIs _ (_ :: _) _ _); first | refine wQ ?_ | refine wF ?_ | refine wG ?_ | refine wT ?_ | refine wM ?_ | refine wS ?_ | refine wP ?_))
      clear hF
      repeat refine evDone ?_
      try (show AW _ _ _ _ _)
      refine AW.ret (retI (r := .bool false) ⟨_, rfl, trivial⟩ ?_)
      simp [a27_res, resOk, resP, resV, ARes.op, R2s, R2, R1s, R1, closeOk, closeV]
  have hb1' : ¬ (60 : Int) < frs.length := by omega
  have hb2' : ¬ (20 : Int) < ws.length := by omega
  have hF := And.intro (hb1') (hb2')
  repeat (first | refine wD1 ?_ | refine wD2 ?_ | refine wE1 ?_ | refine wE2 ?_ | refine wN ?_ | ((with_reducible show evIs _ (_ :: _) _ _); first | refine wQ ?_ | refine wF ?_ | refine wG ?_ | refine wT ?_ | refine wM ?_ | refine wS ?_ | refine wP ?_))
  clear hF
  repeat refine evDone ?_
  try (show AW _ _ _ _ _)
  repeat refine AW.seq ?_
  refine AW.condF (by simp []) (by simp []) ?_
  refine AW.skip ?_
  show AW _ _ _ _ _
  repeat refine AW.seq ?_
  refine AW.reg ?_
  have hF := True.intro
  repeat (first | refine wD1 ?_ | refine wD2 ?_ | refine wE1 ?_ | refine wE2 ?_ | refine wN ?_ | ((with_reducible show evIs _ (_ :: _) _ _); first | refine wQ ?_ | refine wF ?_ | refine wG ?_ | refine wT ?_ | refine wM ?_ | refine wS ?_ | refine wP ?_))
  clear hF
  repeat refine evDone ?_
  try (show AW _ _ _ _ _)
  repeat refine AW.seq ?_
  refine AW.reg ?_
  have hF := True.intro
  repeat (first | refine wD1 ?_ | refine wD2 ?_ | refine wE1 ?_ | refine wE2 ?_ | refine wN ?_ | ((with_reducible show evIs _ (_ :: _) _ _); first | refine wQ ?_ | refine wF ?_ | refine wG ?_ | refine wT ?_ | refine wM ?_ | refine wS ?_ | refine wP ?_))
  clear hF
  repeat refine evDone ?_
  try (show AW _ _ _ _ _)
  repeat refine AW.seq ?_
  refine AW.block ?_
  refine AW.loop (fun g : Nat × Nat × Nat × List Val => g.1 ≤ frs.length ∧ g.2.2.1 < g.2.1 ∧ 15 ≤ g.2.2.1 ∧ okvs g.2.2.2 ∧ g.2.2.2.length + ((frs.drop g.1).map fw).sum = (frs.map fw).sum) (fun g => mkS [(1, .ptr 0 0 0), (3, .ptr 14 0 0), (4, .int .i64 g.1)] [(0, ⟨6, true, [.agg [.int .i64 st, .sl .fro (frs.map (Frame.av false)), .int .i64 fu, .sl .fro (ws.map (AV.int .i64)), .bool se, .str ky]]⟩), (14, ⟨5, true, [.agg [.int .i64 0, .int .i64 0, .str ⟨#[]⟩, .hdr g.2.2.1 0 g.2.2.2.length, .sl .ext []]]⟩), (g.2.2.1, ⟨5, false, avs false g.2.2.2⟩)] g.2.1) (fun g => frs.length - g.1) (0, 40, 30, []) ⟨by simp, by simp, by simp, trivial, by simp⟩ ?_ ?_
  · refine Fit.mk _ _ _ (by simp [avs, conv2, newEmp, convs_refl, convs, conv]) (by simp [avs, heapFit, newEmp, conv2s, conv2, convs_refl, convs, conv]) (by intro q hq; first | (simp at hq; done) | (simp at hq; omega) | (simp at hq; simp; omega))
  · rintro ⟨i, n, r, acc⟩ ⟨hi, hr, hbr, hacc, hsum⟩
    dsimp only at hi hr hbr hacc hsum ⊢
    have hne : ∀ k, (r = n + k) = False := fun k => eq_false (by omega)
    have hne' : ∀ k, (n + k = r) = False := fun k => eq_false (by omega)
    have hnl : ∀ k, (n + k < n) = False := fun k => eq_false (by omega)
    have hrn : ∀ k, r < n + k := fun k => by omega
    have hl0 : (r = 0) = False := eq_false (by omega)
    have hm0 : (0 = r) = False := eq_false (by omega)
    have hl14 : (r = 14) = False := eq_false (by omega)
    have hm14 : (14 = r) = False := eq_false (by omega)
    have hn14 : ∀ k, (14 = n + k) = False := fun k => eq_false (by omega)
    have hn14' : ∀ k, (n + k = 14) = False := fun k => eq_false (by omega)
    have hn0 : ∀ k, (0 = n + k) = False := fun k => eq_false (by omega)
    have hn0' : ∀ k, (n + k = 0) = False := fun k => eq_false (by omega)
    have hb0 : ∀ k, 0 < n + k := fun k => by omega
    have hb14 : ∀ k, 14 < n + k := fun k => by omega
    have hc0 : 0 < n := by omega
    have hc14 : 14 < n := by omega
    repeat refine AW.seq ?_
    refine AW.reg ?_
    by_cases hlt : i < frs.length
    · obtain ⟨x, hx⟩ : ∃ x, frs[i]? = some x := ⟨_, List.getElem?_eq_getElem hlt⟩
      have he := elem_map (f := Frame.av false) hx
      obtain ⟨hm1, hm2, hm3, hm4, hm5, hm6⟩ := ho3 x (List.mem_of_getElem? hx)
      have hsd := sum_drop fw hx
      have hsum' := hsum
      rw [hsd] at hsum'
      simp only [fw] at hsum'
      simp only [Frame.av, ko_false] at he
      generalize hrF : ((frs.drop (i + 1)).map fw).sum = rF at hsum'
      have hby : (acc.length + x.slots.length) * 80 ≤ 140737488355328 := by omega
      have hby2 : acc.length + x.slots.length ≤ 9223372036854775807 := by omega
      have hbz : (acc.length + x.slots.length + x.stack.length) * 80 ≤ 140737488355328 := by omega
      have hbz2 : acc.length + x.slots.length + x.stack.length ≤ 9223372036854775807 := by omega
      have hx1 : ∀ y ∈ avs false x.slots, (cellsOf y).length = 5 := av_len false x.slots
      have hx2 : ∀ y ∈ avs false x.stack, (cellsOf y).length = 5 := av_len false x.stack
      have hF := And.intro (hlt) (And.intro (hne) (And.intro (hne') (And.intro (hnl) (And.intro (hl0) (And.intro (hm0) (And.intro (hl14) (And.intro (hm14) (And.intro (hn14) (And.intro (hn14') (And.intro (hn0) (And.intro (hn0') (hr))))))))))))
      repeat (first | refine wD1 ?_ | refine wD2 ?_ | refine wE1 ?_ | refine wE2 ?_ | refine wN ?_ | ((with_reducible show evIs _ (_ :: _) _ _); first | refine wQ ?_ | refine wF ?_ | refine wG ?_ | refine wT ?_ | refine wM ?_ | refine wS ?_ | refine wP ?_))
      clear hF
      repeat refine evDone ?_
      try (show AW _ _ _ _ _)
      repeat refine AW.seq ?_
      refine AW.condT (by simp []) (by simp []) ?_
      refine AW.skip ?_
      show AW _ _ _ _ _
      refine AW.seq (AW.block ?_)
      repeat refine AW.seq ?_
      refine AW.draw ?_
      have hF := And.intro (hlt) (And.intro (he) (And.intro (hne) (And.intro (hne') (And.intro (hnl) (And.intro (hl0) (And.intro (hm0) (And.intro (hl14) (And.intro (hm14) (And.intro (hn14) (And.intro (hn14') (And.intro (hn0) (And.intro (hn0') (And.intro (hr) (And.intro (hby) (And.intro (hby2) (eq_true hx1))))))))))))))))
      repeat (first | refine wD1 ?_ | refine wD2 ?_ | refine wE1 ?_ | refine wE2 ?_ | refine wN ?_ | ((with_reducible show evIs _ (_ :: _) _ _); first | refine wQ ?_ | refine wF ?_ | refine wG ?_ | refine wT ?_ | refine wM ?_ | refine wS ?_ | refine wP ?_))
      clear hF
      repeat refine evDone ?_
      try (show AW _ _ _ _ _)
      repeat refine AW.seq ?_
      refine AW.draw ?_
      have hF := And.intro (hlt) (And.intro (he) (And.intro (hne) (And.intro (hne') (And.intro (hnl) (And.intro (hl0) (And.intro (hm0) (And.intro (hl14) (And.intro (hm14) (And.intro (hn14) (And.intro (hn14') (And.intro (hn0) (And.intro (hn0') (And.intro (hr) (And.intro (hbz) (And.intro (hbz2) (eq_true hx2))))))))))))))))
      repeat (first | refine wD1 ?_ | refine wD2 ?_ | refine wE1 ?_ | refine wE2 ?_ | refine wN ?_ | ((with_reducible show evIs _ (_ :: _) _ _); first | refine wQ ?_ | refine wF ?_ | refine wG ?_ | refine wT ?_ | refine wM ?_ | refine wS ?_ | refine wP ?_))
      clear hF
      repeat refine evDone ?_
      try (show AW _ _ _ _ _)
      repeat refine AW.seq ?_
      refine AW.reg ?_
      have hF := True.intro
      repeat (first | refine wD1 ?_ | refine wD2 ?_ | refine wE1 ?_ | refine wE2 ?_ | refine wN ?_ | ((with_reducible show evIs _ (_ :: _) _ _); first | refine wQ ?_ | refine wF ?_ | refine wG ?_ | refine wT ?_ | refine wM ?_ | refine wS ?_ | refine wP ?_))
      clear hF
      repeat refine evDone ?_
      try (show AW _ _ _ _ _)
      refine AW.fit (st' := mkS [(1, .ptr 0 0 0), (3, .ptr 14 0 0), (4, .int .i64 i), (5, .int .i64 0)] [(0, ⟨6, true, [.agg [.int .i64 st, .sl .fro (frs.map (Frame.av false)), .int .i64 fu, .sl .fro (ws.map (AV.int .i64)), .bool se, .str ky]]⟩), (14, ⟨5, true, [.agg [.int .i64 0, .int .i64 0, .str ⟨#[]⟩, .hdr (n + 41) 0 ((acc ++ x.slots) ++ x.stack).length, .sl .ext []]]⟩), ((n + 41), ⟨5, false, avs false ((acc ++ x.slots) ++ x.stack)⟩)] (n + 50)) ?_ ?_
      · have hass : acc.length + (x.slots.length + x.stack.length) = acc.length + x.slots.length + x.stack.length := by omega
        refine Fit.mk _ _ _ (by simp [avs_append, hass, hne, hne', hnl, hl0, hm0, hl14, hm14, hn14, hn14', hn0, hn0', hrn, hb0, hb14, hc0, hc14, hr, conv2, newEmp, convs_refl, convs, conv]) (by simp [avs_append, hass, hne, hne', hnl, hl0, hm0, hl14, hm14, hn14, hn14', hn0, hn0', hrn, hb0, hb14, hc0, hc14, hr, heapFit, newEmp, conv2s, conv2, convs_refl, convs, conv]) (by intro q hq; first | (simp at hq; done) | (simp at hq; omega) | (simp at hq; simp; omega))
      refine f27_marks st fu frs ws se ky i (n + 50) (n + 41) x hx ((acc ++ x.slots) ++ x.stack) (by omega) (by omega) hm2 hm1 (okvs_append (okvs_append hacc hm3) hm5) (by simp only [List.length_append]; omega) ?_ ?_
      · intro s hs
        exact retI ⟨_, rfl, trivial⟩ hs
      intro n' r' acc' h1 h2 h4 h5
      show AW _ _ _ _ _
      refine AW.reg ?_
      have hw : IntKind.i64.wrap ((i : Int) + 1) = (i : Int) + 1 := i64_in _ ⟨by omega, by omega⟩
      have hF := hw
      repeat (first | refine wD1 ?_ | refine wD2 ?_ | refine wE1 ?_ | refine wE2 ?_ | refine wN ?_ | ((with_reducible show evIs _ (_ :: _) _ _); first | refine wQ ?_ | refine wF ?_ | refine wG ?_ | refine wT ?_ | refine wM ?_ | refine wS ?_ | refine wP ?_))
      clear hF
      repeat refine evDone ?_
      try (show AW _ _ _ _ _)
      have hk0 : 0 < n' := by omega
      have hk14 : 14 < n' := by omega
      have hq0 : (r' = 0) = False := eq_false (by omega)
      have hq14 : (r' = 14) = False := eq_false (by omega)
      simp only [List.length_append] at h4
      refine ⟨(i + 1, n', r', acc'), ⟨by dsimp only; omega, h1, h2, h5, by dsimp only; omega⟩, by dsimp only; omega, ?_⟩
      refine Fit.mk _ _ _ (by simp [hw, hk0, hk14, h1, hq0, hq14, conv2, newEmp, convs_refl, convs, conv]) (by simp [hw, hk0, hk14, h1, hq0, hq14, heapFit, newEmp, conv2s, conv2, convs_refl, convs, conv]) (by intro q hq; first | (simp at hq; done) | (simp at hq; omega) | (simp at hq; simp; omega))
    · have hlt2 : ¬ (i : Int) < frs.length := by omega
      have hii : i = frs.length := by omega
      subst hii
      have hal : acc.length = (frs.map fw).sum := by simpa using hsum
      have h34 := f34 ⟨0, 0, ⟨#[]⟩, acc, []⟩ ⟨by omega, by simp, hacc⟩ 20000
      simp only [Val.av, ko_false, List.map_nil] at h34
      have hta : (avs false acc).take acc.length = avs false acc := List.take_of_length_le (by simp)
      have hF := And.intro (hlt) (And.intro (hlt2) (And.intro (hne) (And.intro (hne') (And.intro (hnl) (And.intro (hl0) (And.intro (hm0) (And.intro (hl14) (And.intro (hm14) (And.intro (hn14) (And.intro (hn14') (And.intro (hn0) (And.intro (hn0') (hr)))))))))))))
      repeat (first | refine wD1 ?_ | refine wD2 ?_ | refine wE1 ?_ | refine wE2 ?_ | refine wN ?_ | ((with_reducible show evIs _ (_ :: _) _ _); first | refine wQ ?_ | refine wF ?_ | refine wG ?_ | refine wT ?_ | refine wM ?_ | refine wS ?_ | refine wP ?_))
      clear hF
      repeat refine evDone ?_
      try (show AW _ _ _ _ _)
      repeat refine AW.seq ?_
      refine AW.condF (by simp []) (by simp []) ?_
      refine AW.exit ?_
      show AW _ _ _ _ _
      repeat refine AW.seq ?_
      refine AW.reg ?_
      have hF := And.intro (hne) (And.intro (hne') (And.intro (hnl) (And.intro (hl0) (And.intro (hm0) (And.intro (hl14) (And.intro (hm14) (And.intro (hn14) (And.intro (hn14') (And.intro (hn0) (And.intro (hn0') (hr)))))))))))
      repeat (first | refine wD1 ?_ | refine wD2 ?_ | refine wE1 ?_ | refine wE2 ?_ | refine wN ?_ | ((with_reducible show evIs _ (_ :: _) _ _); first | refine wQ ?_ | refine wF ?_ | refine wG ?_ | refine wT ?_ | refine wM ?_ | refine wS ?_ | refine wP ?_))
      clear hF
      repeat refine evDone ?_
      try (show AW _ _ _ _ _)
      have hF := And.intro (hta) (And.intro (hne) (And.intro (hne') (And.intro (hnl) (And.intro (hl0) (And.intro (hm0) (And.intro (hl14) (And.intro (hm14) (And.intro (hn14) (And.intro (hn14') (And.intro (hn0) (And.intro (hn0') (hr))))))))))))
      refine wB (hA := h34) ?_
      clear hF
      intro b _
      have hF := True.intro
      repeat (first | refine wD1 ?_ | refine wD2 ?_ | refine wE1 ?_ | refine wE2 ?_ | refine wN ?_ | ((with_reducible show evIs _ (_ :: _) _ _); first | refine wQ ?_ | refine wF ?_ | refine wG ?_ | refine wT ?_ | refine wM ?_ | refine wS ?_ | refine wP ?_))
      clear hF
      repeat refine evDone ?_
      try (show AW _ _ _ _ _)
      refine AW.ret (retI (r := .bool b) ⟨_, rfl, trivial⟩ ?_)
      simp [a27_res, resOk, resP, resV, ARes.op, R2s, R2, R1s, R1, closeOk, closeV]

theorem f12 (ks : List Coro) (hl : ks.length ≤ 9223372036854775807) (hok : ∀ c ∈ ks, c.ok ∧ cw c * 80 ≤ 140737488355328) : ACall Try.prog 12 [.sl .fro (ks.map (Coro.av false))] (fun r => ∃ b, r = .bool b ∧ True) := by
  refine a12_of (by simp) ?_
  repeat refine AW.seq ?_
  refine AW.reg ?_
  have hF := True.intro
  repeat (first | refine wD1 ?_ | refine wD2 ?_ | refine wE1 ?_ | refine wE2 ?_ | refine wN ?_ | ((with_reducible show evIs _ (_ :: _) _ _); first | refine wQ ?_ | refine wF ?_ | refine wG ?_ | refine wT ?_ | refine wM ?_ | refine wS ?_ | refine wP ?_))
  clear hF
  repeat refine evDone ?_
  try (show AW _ _ _ _ _)
  repeat refine AW.seq ?_
  refine AW.reg ?_
  have hF := True.intro
  repeat (first | refine wD1 ?_ | refine wD2 ?_ | refine wE1 ?_ | refine wE2 ?_ | refine wN ?_ | ((with_reducible show evIs _ (_ :: _) _ _); first | refine wQ ?_ | refine wF ?_ | refine wG ?_ | refine wT ?_ | refine wM ?_ | refine wS ?_ | refine wP ?_))
  clear hF
  repeat refine evDone ?_
  try (show AW _ _ _ _ _)
  repeat refine AW.seq ?_
  refine AW.block ?_
  refine AW.loop (fun i : Nat => i ≤ ks.length) (fun i => mkS [(0, .sl .fro (ks.map (Coro.av false))), (3, .int .i64 i)] [] 10) (fun i => ks.length - i) 0 (by simp) ?_ ?_
  · refine Fit.mk _ _ _ (by simp [conv2, newEmp, convs_refl, convs, conv]) (by simp [heapFit, newEmp, conv2s, conv2, convs_refl, convs, conv]) (by intro q hq; first | (simp at hq; done) | (simp at hq; omega) | (simp at hq; simp; omega))
  · intro i hi
    repeat refine AW.seq ?_
    refine AW.reg ?_
    by_cases hlt : i < ks.length
    · have hF := hlt
      repeat (first | refine wD1 ?_ | refine wD2 ?_ | refine wE1 ?_ | refine wE2 ?_ | refine wN ?_ | ((with_reducible show evIs _ (_ :: _) _ _); first | refine wQ ?_ | refine wF ?_ | refine wG ?_ | refine wT ?_ | refine wM ?_ | refine wS ?_ | refine wP ?_))
      clear hF
      repeat refine evDone ?_
      try (show AW _ _ _ _ _)
      repeat refine AW.seq ?_
      refine AW.condT (by simp []) (by simp []) ?_
      refine AW.skip ?_
      show AW _ _ _ _ _
      refine AW.seq (AW.block ?_)
      obtain ⟨c, hc⟩ : ∃ c, ks[i]? = some c := ⟨_, List.getElem?_eq_getElem hlt⟩
      have he := elem_map (f := Coro.av false) hc
      simp only [Coro.av, ko_false] at he
      obtain ⟨hco, hcs⟩ := hok c (List.mem_of_getElem? hc)
      repeat refine AW.seq ?_
      refine AW.reg ?_
      by_cases h30 : i < 30
      · have h30' : ¬ (30 : Int) ≤ (i : Int) := by omega
        have hF := And.intro (hlt) (And.intro (he) (And.intro (h30) (h30')))
        repeat (first | refine wD1 ?_ | refine wD2 ?_ | refine wE1 ?_ | refine wE2 ?_ | refine wN ?_ | ((with_reducible show evIs _ (_ :: _) _ _); first | refine wQ ?_ | refine wF ?_ | refine wG ?_ | refine wT ?_ | refine wM ?_ | refine wS ?_ | refine wP ?_))
        clear hF
        repeat refine evDone ?_
        try (show AW _ _ _ _ _)
        have hF := True.intro
        refine wB (hA := f27 c hco hcs) ?_
        clear hF
        intro b _
        cases b
        · have hF := True.intro
          repeat (first | refine wD1 ?_ | refine wD2 ?_ | refine wE1 ?_ | refine wE2 ?_ | refine wN ?_ | ((with_reducible show evIs _ (_ :: _) _ _); first | refine wQ ?_ | refine wF ?_ | refine wG ?_ | refine wT ?_ | refine wM ?_ | refine wS ?_ | refine wP ?_))
          clear hF
          repeat refine evDone ?_
          try (show AW _ _ _ _ _)
          repeat refine AW.seq ?_
          refine AW.condT (by simp []) (by simp []) ?_
          repeat refine AW.seq ?_
          refine AW.reg ?_
          have hF := True.intro
          repeat (first | refine wD1 ?_ | refine wD2 ?_ | refine wE1 ?_ | refine wE2 ?_ | refine wN ?_ | ((with_reducible show evIs _ (_ :: _) _ _); first | refine wQ ?_ | refine wF ?_ | refine wG ?_ | refine wT ?_ | refine wM ?_ | refine wS ?_ | refine wP ?_))
          clear hF
          repeat refine evDone ?_
          try (show AW _ _ _ _ _)
          refine AW.ret (retI (r := .bool false) ⟨_, rfl, trivial⟩ ?_)
          simp [a12_res, resOk, resP, resV, ARes.op, R2s, R2, R1s, R1, closeOk, closeV]
        · have hF := True.intro
          repeat (first | refine wD1 ?_ | refine wD2 ?_ | refine wE1 ?_ | refine wE2 ?_ | refine wN ?_ | ((with_reducible show evIs _ (_ :: _) _ _); first | refine wQ ?_ | refine wF ?_ | refine wG ?_ | refine wT ?_ | refine wM ?_ | refine wS ?_ | refine wP ?_))
          clear hF
          repeat refine evDone ?_
          try (show AW _ _ _ _ _)
          repeat refine AW.seq ?_
          refine AW.condF (by simp []) (by simp []) ?_
          refine AW.skip ?_
          show AW _ _ _ _ _
          refine AW.reg ?_
          have hw : IntKind.i64.wrap ((i : Int) + 1) = (i : Int) + 1 := i64_in _ ⟨by omega, by omega⟩
          have hF := hw
          repeat (first | refine wD1 ?_ | refine wD2 ?_ | refine wE1 ?_ | refine wE2 ?_ | refine wN ?_ | ((with_reducible show evIs _ (_ :: _) _ _); first | refine wQ ?_ | refine wF ?_ | refine wG ?_ | refine wT ?_ | refine wM ?_ | refine wS ?_ | refine wP ?_))
          clear hF
          repeat refine evDone ?_
          try (show AW _ _ _ _ _)
          refine ⟨i + 1, by omega, by omega, ?_⟩
          refine Fit.mk _ _ _ (by simp [hw, conv2, newEmp, convs_refl, convs, conv]) (by simp [hw, heapFit, newEmp, conv2s, conv2, convs_refl, convs, conv]) (by intro q hq; first | (simp at hq; done) | (simp at hq; omega) | (simp at hq; simp; omega))
      · have h30' : (30 : Int) ≤ (i : Int) := by omega
        have hF := And.intro (hlt) (And.intro (he) (And.intro (h30) (h30')))
        repeat (first | refine wD1 ?_ | refine wD2 ?_ | refine wE1 ?_ | refine wE2 ?_ | refine wN ?_ | ((with_reducible show evIs _ (_ :: _) _ _); first | refine wQ ?_ | refine wF ?_ | refine wG ?_ | refine wT ?_ | refine wM ?_ | refine wS ?_ | refine wP ?_))
        clear hF
        repeat refine evDone ?_
        try (show AW _ _ _ _ _)
        repeat refine AW.seq ?_
        refine AW.condT (by simp []) (by simp []) ?_
        repeat refine AW.seq ?_
        refine AW.reg ?_
        have hF := True.intro
        repeat (first | refine wD1 ?_ | refine wD2 ?_ | refine wE1 ?_ | refine wE2 ?_ | refine wN ?_ | ((with_reducible show evIs _ (_ :: _) _ _); first | refine wQ ?_ | refine wF ?_ | refine wG ?_ | refine wT ?_ | refine wM ?_ | refine wS ?_ | refine wP ?_))
        clear hF
        repeat refine evDone ?_
        try (show AW _ _ _ _ _)
        refine AW.ret (retI (r := .bool false) ⟨_, rfl, trivial⟩ ?_)
        simp [a12_res, resOk, resP, resV, ARes.op, R2s, R2, R1s, R1, closeOk, closeV]
    · have hlt2 : ¬ (i : Int) < ks.length := by omega
      have hF := And.intro (hlt) (hlt2)
      repeat (first | refine wD1 ?_ | refine wD2 ?_ | refine wE1 ?_ | refine wE2 ?_ | refine wN ?_ | ((with_reducible show evIs _ (_ :: _) _ _); first | refine wQ ?_ | refine wF ?_ | refine wG ?_ | refine wT ?_ | refine wM ?_ | refine wS ?_ | refine wP ?_))
      clear hF
      repeat refine evDone ?_
      try (show AW _ _ _ _ _)
      repeat refine AW.seq ?_
      refine AW.condF (by simp []) (by simp []) ?_
      refine AW.exit ?_
      show AW _ _ _ _ _
      repeat refine AW.seq ?_
      refine AW.reg ?_
      have hF := True.intro
      repeat (first | refine wD1 ?_ | refine wD2 ?_ | refine wE1 ?_ | refine wE2 ?_ | refine wN ?_ | ((with_reducible show evIs _ (_ :: _) _ _); first | refine wQ ?_ | refine wF ?_ | refine wG ?_ | refine wT ?_ | refine wM ?_ | refine wS ?_ | refine wP ?_))
      clear hF
      repeat refine evDone ?_
      try (show AW _ _ _ _ _)
      refine AW.ret (retI (r := .bool true) ⟨_, rfl, trivial⟩ ?_)
      simp [a12_res, resOk, resP, resV, ARes.op, R2s, R2, R1s, R1, closeOk, closeV]

theorem f4 (ks : List Coro) (fs : List Fut) (hl : ks.length * 88 ≤ 140737488355328) (hok : ∀ c ∈ ks, c.ok ∧ cw c * 80 ≤ 140737488355328) : ACall Try.prog 4 [.sl .fro (ks.map (Coro.av false)), futs fs] (· = .bool true) := by
  have hok' : ∀ c ∈ ks, c.ok := fun c hc => (hok c hc).1
  have hcl : (ks.map (wkA fs)).map clC = ks.map (Coro.av false ∘ wk fs) := by
    simp only [List.map_map, List.map_inj_left, Function.comp_apply]
    intro c _
    show clC ((wk fs c).av false) = _
    generalize wk fs c = c'
    simp [Coro.av, Function.comp_def, clC_frv]
  have h13 := f13 (ks.map (wk fs)) (by simpa using hl) (by
    intro c hc
    obtain ⟨c', hc', rfl⟩ := List.mem_map.1 hc
    have := hok' c' hc'
    unfold wk
    split <;> exact this)
  simp only [List.map_map] at h13
  refine a4_of (by simp) ?_
  repeat refine AW.seq ?_
  refine AW.reg ?_
  have hF := True.intro
  repeat (first | refine wD1 ?_ | refine wD2 ?_ | refine wE1 ?_ | refine wE2 ?_ | refine wN ?_ | ((with_reducible show evIs _ (_ :: _) _ _); first | refine wQ ?_ | refine wF ?_ | refine wG ?_ | refine wT ?_ | refine wM ?_ | refine wS ?_ | refine wP ?_))
  clear hF
  repeat refine evDone ?_
  try (show AW _ _ _ _ _)
  repeat refine AW.seq ?_
  refine AW.reg ?_
  by_cases h1 : fs.length ≤ 100
  · have h1' : ¬ (100 : Int) < fs.length := by omega
    have hF := h1'
    repeat (first | refine wD1 ?_ | refine wD2 ?_ | refine wE1 ?_ | refine wE2 ?_ | refine wN ?_ | ((with_reducible show evIs _ (_ :: _) _ _); first | refine wQ ?_ | refine wF ?_ | refine wG ?_ | refine wT ?_ | refine wM ?_ | refine wS ?_ | refine wP ?_))
    clear hF
    repeat refine evDone ?_
    try (show AW _ _ _ _ _)
    have hF := True.intro
    refine wB (hA := f12 ks (by omega) hok) ?_
    clear hF
    intro b _
    cases b
    · have hF := True.intro
      repeat (first | refine wD1 ?_ | refine wD2 ?_ | refine wE1 ?_ | refine wE2 ?_ | refine wN ?_ | ((with_reducible show evIs _ (_ :: _) _ _); first | refine wQ ?_ | refine wF ?_ | refine wG ?_ | refine wT ?_ | refine wM ?_ | refine wS ?_ | refine wP ?_))
      clear hF
      repeat refine evDone ?_
      try (show AW _ _ _ _ _)
      repeat refine AW.seq ?_
      refine AW.condT (by simp []) (by simp []) ?_
      repeat refine AW.seq ?_
      refine AW.reg ?_
      have hF := True.intro
      repeat (first | refine wD1 ?_ | refine wD2 ?_ | refine wE1 ?_ | refine wE2 ?_ | refine wN ?_ | ((with_reducible show evIs _ (_ :: _) _ _); first | refine wQ ?_ | refine wF ?_ | refine wG ?_ | refine wT ?_ | refine wM ?_ | refine wS ?_ | refine wP ?_))
      clear hF
      repeat refine evDone ?_
      try (show AW _ _ _ _ _)
      have hF := True.intro
      refine wC (hA := f7) ?_
      clear hF
      have hF := True.intro
      repeat (first | refine wD1 ?_ | refine wD2 ?_ | refine wE1 ?_ | refine wE2 ?_ | refine wN ?_ | ((with_reducible show evIs _ (_ :: _) _ _); first | refine wQ ?_ | refine wF ?_ | refine wG ?_ | refine wT ?_ | refine wM ?_ | refine wS ?_ | refine wP ?_))
      clear hF
      repeat refine evDone ?_
      try (show AW _ _ _ _ _)
      refine AW.ret (retI rfl ?_)
      simp [a4_res, resOk, resP, resV, ARes.op, R2s, R2, R1s, R1, closeOk, closeV]
    · have hF := True.intro
      repeat (first | refine wD1 ?_ | refine wD2 ?_ | refine wE1 ?_ | refine wE2 ?_ | refine wN ?_ | ((with_reducible show evIs _ (_ :: _) _ _); first | refine wQ ?_ | refine wF ?_ | refine wG ?_ | refine wT ?_ | refine wM ?_ | refine wS ?_ | refine wP ?_))
      clear hF
      repeat refine evDone ?_
      try (show AW _ _ _ _ _)
      repeat refine AW.seq ?_
      refine AW.condF (by simp []) (by simp []) ?_
      refine AW.skip ?_
      show AW _ _ _ _ _
      repeat refine AW.seq ?_
      refine AW.reg ?_
      have hF := True.intro
      repeat (first | refine wD1 ?_ | refine wD2 ?_ | refine wE1 ?_ | refine wE2 ?_ | refine wN ?_ | ((with_reducible show evIs _ (_ :: _) _ _); first | refine wQ ?_ | refine wF ?_ | refine wG ?_ | refine wT ?_ | refine wM ?_ | refine wS ?_ | refine wP ?_))
      clear hF
      repeat refine evDone ?_
      try (show AW _ _ _ _ _)
      have hF := hcl
      refine wC (hA := f14 ks fs hl hok') ?_
      clear hF
      have hF := True.intro
      repeat (first | refine wD1 ?_ | refine wD2 ?_ | refine wE1 ?_ | refine wE2 ?_ | refine wN ?_ | ((with_reducible show evIs _ (_ :: _) _ _); first | refine wQ ?_ | refine wF ?_ | refine wG ?_ | refine wT ?_ | refine wM ?_ | refine wS ?_ | refine wP ?_))
      clear hF
      repeat refine evDone ?_
      try (show AW _ _ _ _ _)
      have hF := hcl
      refine wC (hA := f15 ks fs hl hok') ?_
      clear hF
      have hF := True.intro
      repeat (first | refine wD1 ?_ | refine wD2 ?_ | refine wE1 ?_ | refine wE2 ?_ | refine wN ?_ | ((with_reducible show evIs _ (_ :: _) _ _); first | refine wQ ?_ | refine wF ?_ | refine wG ?_ | refine wT ?_ | refine wM ?_ | refine wS ?_ | refine wP ?_))
      clear hF
      repeat refine evDone ?_
      try (show AW _ _ _ _ _)
      have hF := True.intro
      refine wC (hA := h13) ?_
      clear hF
      have hF := True.intro
      repeat (first | refine wD1 ?_ | refine wD2 ?_ | refine wE1 ?_ | refine wE2 ?_ | refine wN ?_ | ((with_reducible show evIs _ (_ :: _) _ _); first | refine wQ ?_ | refine wF ?_ | refine wG ?_ | refine wT ?_ | refine wM ?_ | refine wS ?_ | refine wP ?_))
      clear hF
      repeat refine evDone ?_
      try (show AW _ _ _ _ _)
      have hF := True.intro
      refine wC (hA := f7) ?_
      clear hF
      have hF := True.intro
      repeat (first | refine wD1 ?_ | refine wD2 ?_ | refine wE1 ?_ | refine wE2 ?_ | refine wN ?_ | ((with_reducible show evIs _ (_ :: _) _ _); first | refine wQ ?_ | refine wF ?_ | refine wG ?_ | refine wT ?_ | refine wM ?_ | refine wS ?_ | refine wP ?_))
      clear hF
      repeat refine evDone ?_
      try (show AW _ _ _ _ _)
      refine AW.ret (retI rfl ?_)
      simp [a4_res, resOk, resP, resV, ARes.op, R2s, R2, R1s, R1, closeOk, closeV]
  · have h1' : (100 : Int) < fs.length := by omega
    have hF := h1'
    repeat (first | refine wD1 ?_ | refine wD2 ?_ | refine wE1 ?_ | refine wE2 ?_ | refine wN ?_ | ((with_reducible show evIs _ (_ :: _) _ _); first | refine wQ ?_ | refine wF ?_ | refine wG ?_ | refine wT ?_ | refine wM ?_ | refine wS ?_ | refine wP ?_))
    clear hF
    repeat refine evDone ?_
    try (show AW _ _ _ _ _)
    repeat refine AW.seq ?_
    refine AW.condT (by simp []) (by simp []) ?_
    repeat refine AW.seq ?_
    refine AW.reg ?_
    have hF := True.intro
    repeat (first | refine wD1 ?_ | refine wD2 ?_ | refine wE1 ?_ | refine wE2 ?_ | refine wN ?_ | ((with_reducible show evIs _ (_ :: _) _ _); first | refine wQ ?_ | refine wF ?_ | refine wG ?_ | refine wT ?_ | refine wM ?_ | refine wS ?_ | refine wP ?_))
    clear hF
    repeat refine evDone ?_
    try (show AW _ _ _ _ _)
    have hF := True.intro
    refine wC (hA := f7) ?_
    clear hF
    have hF := True.intro
    repeat (first | refine wD1 ?_ | refine wD2 ?_ | refine wE1 ?_ | refine wE2 ?_ | refine wN ?_ | ((with_reducible show evIs _ (_ :: _) _ _); first | refine wQ ?_ | refine wF ?_ | refine wG ?_ | refine wT ?_ | refine wM ?_ | refine wS ?_ | refine wP ?_))
    clear hF
    repeat refine evDone ?_
    try (show AW _ _ _ _ _)
    refine AW.ret (retI rfl ?_)
    simp [a4_res, resOk, resP, resV, ARes.op, R2s, R2, R1s, R1, closeOk, closeV]
end Go.Proofs.Ytnjdjahcepakgaa

set_option linter.unusedSimpArgs false
set_option linter.unusedVariables false
set_option maxHeartbeats 4000000
namespace Go.Proofs.Ytnjdjahcepakgaa
open Go Go.Amb Go.IntWalk

def idxC (ks : List Coro) (p : Coro → Bool) : Int := match ks.findIdx? p with | some k => k | none => -1
theorem idxC_at {xs : List Coro} {p : Coro → Bool} {i : Nat} {x : Coro} (hno : ∀ j, j < i → ∀ x, xs[j]? = some x → p x = false) (hx : xs[i]? = some x) (hp : p x = true) : xs.findIdx? p = some i := by
  rw [List.findIdx?_eq_some_iff_getElem]
  obtain ⟨hi, rfl⟩ := List.getElem?_eq_some_iff.1 hx
  exact ⟨hi, hp, fun j hj => by simpa using hno j hj _ (List.getElem?_eq_getElem (by omega))⟩
theorem idxC_none {xs : List Coro} {p : Coro → Bool} (hno : ∀ j, j < xs.length → ∀ x, xs[j]? = some x → p x = false) : xs.findIdx? p = none := by
  rw [List.findIdx?_eq_none_iff]
  intro x hx
  obtain ⟨j, hj, rfl⟩ := List.getElem_of_mem hx
  exact hno j hj _ (List.getElem?_eq_getElem hj)
def ready (c : Coro) : Bool := c.state == 1
theorem f32 (c : Coro) : ACall Try.prog 32 [c.av false] (· = .bool (ready c)) := by
  obtain ⟨st, frs, fu, ws, se, ky⟩ := c
  simp only [Coro.av, ko_false, ready]
  refine a32_of (by simp) ?_
  repeat refine AW.seq ?_
  refine AW.reg ?_
  have hF := True.intro
  repeat (first | refine wD1 ?_ | refine wD2 ?_ | refine wE1 ?_ | refine wE2 ?_ | refine wN ?_ | ((with_reducible show evIs _ (_ :: _) _ _); first | refine wQ ?_ | refine wF ?_ | refine wG ?_ | refine wT ?_ | refine wM ?_ | refine wS ?_ | refine wP ?_))
  clear hF
  repeat refine evDone ?_
  try (show AW _ _ _ _ _)
  repeat refine AW.seq ?_
  refine AW.reg ?_
  have hF := True.intro
  repeat (first | refine wD1 ?_ | refine wD2 ?_ | refine wE1 ?_ | refine wE2 ?_ | refine wN ?_ | ((with_reducible show evIs _ (_ :: _) _ _); first | refine wQ ?_ | refine wF ?_ | refine wG ?_ | refine wT ?_ | refine wM ?_ | refine wS ?_ | refine wP ?_))
  clear hF
  repeat refine evDone ?_
  try (show AW _ _ _ _ _)
  refine AW.ret (retI rfl ?_)
  simp [a32_res, resOk, resP, resV, ARes.op, R2s, R2, R1s, R1, closeOk, closeV]
theorem f31 (ks : List Coro) (hlen : ks.length ≤ 9223372036854775807) : ACall Try.prog 31 [.sl .fro (ks.map (Coro.av false)), .fn 32 []] (· = .int .i64 (idxC ks ready)) := by
  refine a31_of (by simp) ?_
  repeat refine AW.seq ?_
  refine AW.reg ?_
  have hF := True.intro
  repeat (first | refine wD1 ?_ | refine wD2 ?_ | refine wE1 ?_ | refine wE2 ?_ | refine wN ?_ | ((with_reducible show evIs _ (_ :: _) _ _); first | refine wQ ?_ | refine wF ?_ | refine wG ?_ | refine wT ?_ | refine wM ?_ | refine wS ?_ | refine wP ?_))
  clear hF
  repeat refine evDone ?_
  try (show AW _ _ _ _ _)
  repeat refine AW.seq ?_
  refine AW.reg ?_
  have hF := True.intro
  repeat (first | refine wD1 ?_ | refine wD2 ?_ | refine wE1 ?_ | refine wE2 ?_ | refine wN ?_ | ((with_reducible show evIs _ (_ :: _) _ _); first | refine wQ ?_ | refine wF ?_ | refine wG ?_ | refine wT ?_ | refine wM ?_ | refine wS ?_ | refine wP ?_))
  clear hF
  repeat refine evDone ?_
  try (show AW _ _ _ _ _)
  repeat refine AW.seq ?_
  refine AW.block ?_
  refine AW.loop (fun i : Nat => i ≤ ks.length ∧ ∀ j, j < i → ∀ x, ks[j]? = some x → ready x = false) (fun i : Nat => mkS [(0, .sl .fro (ks.map (Coro.av false))), (1, .fn 32 []), (7, .int .i64 ks.length), (8, .int .i64 i)] [] 0) (fun i => ks.length - i) 0 ⟨by omega, fun j hj => absurd hj (by omega)⟩ ?_ ?_
  · refine Fit.mk _ _ _ (by simp [conv2, newEmp, convs_refl, convs, conv]) (by simp [heapFit, newEmp, conv2s, conv2, convs_refl, convs, conv]) (by intro q hq; first | (simp at hq; done) | (simp at hq; omega) | (simp at hq; simp; omega))
  · rintro i ⟨hi, hno⟩
    repeat refine AW.seq ?_
    refine AW.reg ?_
    by_cases hlt : i < ks.length
    · obtain ⟨x, hx⟩ : ∃ x, ks[i]? = some x := ⟨_, List.getElem?_eq_getElem hlt⟩
      have he := elem_map (f := Coro.av false) hx
      have h32 := f32 x
      simp only [Coro.av, ko_false] at he h32
      have hF := hlt
      repeat (first | refine wD1 ?_ | refine wD2 ?_ | refine wE1 ?_ | refine wE2 ?_ | refine wN ?_ | ((with_reducible show evIs _ (_ :: _) _ _); first | refine wQ ?_ | refine wF ?_ | refine wG ?_ | refine wT ?_ | refine wM ?_ | refine wS ?_ | refine wP ?_))
      clear hF
      repeat refine evDone ?_
      try (show AW _ _ _ _ _)
      repeat refine AW.seq ?_
      refine AW.condT (by simp []) (by simp []) ?_
      refine AW.skip ?_
      show AW _ _ _ _ _
      refine AW.seq (AW.block ?_)
      repeat refine AW.seq ?_
      refine AW.reg ?_
      have hF := hlt
      repeat (first | refine wD1 ?_ | refine wD2 ?_ | refine wE1 ?_ | refine wE2 ?_ | refine wN ?_ | ((with_reducible show evIs _ (_ :: _) _ _); first | refine wQ ?_ | refine wF ?_ | refine wG ?_ | refine wT ?_ | refine wM ?_ | refine wS ?_ | refine wP ?_))
      clear hF
      repeat refine evDone ?_
      try (show AW _ _ _ _ _)
      repeat refine AW.seq ?_
      refine AW.reg ?_
      have hF := And.intro (hlt) (he)
      repeat (first | refine wD1 ?_ | refine wD2 ?_ | refine wE1 ?_ | refine wE2 ?_ | refine wN ?_ | ((with_reducible show evIs _ (_ :: _) _ _); first | refine wQ ?_ | refine wF ?_ | refine wG ?_ | refine wT ?_ | refine wM ?_ | refine wS ?_ | refine wP ?_))
      clear hF
      repeat refine evDone ?_
      try (show AW _ _ _ _ _)
      have hF := True.intro
      refine wV (hA := h32) ?_
      clear hF
      have hF := True.intro
      repeat (first | refine wD1 ?_ | refine wD2 ?_ | refine wE1 ?_ | refine wE2 ?_ | refine wN ?_ | ((with_reducible show evIs _ (_ :: _) _ _); first | refine wQ ?_ | refine wF ?_ | refine wG ?_ | refine wT ?_ | refine wM ?_ | refine wS ?_ | refine wP ?_))
      clear hF
      repeat refine evDone ?_
      try (show AW _ _ _ _ _)
      cases hpx : ready x
      · repeat refine AW.seq ?_
        refine AW.condF (by simp [hpx]) (by simp [hpx]) ?_
        refine AW.skip ?_
        show AW _ _ _ _ _
        refine AW.reg ?_
        have hw : IntKind.i64.wrap ((i : Int) + 1) = (i : Int) + 1 := i64_in _ ⟨by omega, by omega⟩
        have hF := hw
        repeat (first | refine wD1 ?_ | refine wD2 ?_ | refine wE1 ?_ | refine wE2 ?_ | refine wN ?_ | ((with_reducible show evIs _ (_ :: _) _ _); first | refine wQ ?_ | refine wF ?_ | refine wG ?_ | refine wT ?_ | refine wM ?_ | refine wS ?_ | refine wP ?_))
        clear hF
        repeat refine evDone ?_
        try (show AW _ _ _ _ _)
        refine ⟨i + 1, ⟨by omega, ?_⟩, by omega, ?_⟩
        · intro j hj y hy
          by_cases hji : j = i
          · subst hji; rw [hx] at hy; injection hy with hy; subst hy; exact hpx
          · exact hno j (by omega) y hy
        · refine Fit.mk _ _ _ (by simp [hw, conv2, newEmp, convs_refl, convs, conv]) (by simp [hw, heapFit, newEmp, conv2s, conv2, convs_refl, convs, conv]) (by intro q hq; first | (simp at hq; done) | (simp at hq; omega) | (simp at hq; simp; omega))
      · repeat refine AW.seq ?_
        refine AW.condT (by simp [hpx]) (by simp [hpx]) ?_
        repeat refine AW.seq ?_
        refine AW.reg ?_
        have hF := True.intro
        repeat (first | refine wD1 ?_ | refine wD2 ?_ | refine wE1 ?_ | refine wE2 ?_ | refine wN ?_ | ((with_reducible show evIs _ (_ :: _) _ _); first | refine wQ ?_ | refine wF ?_ | refine wG ?_ | refine wT ?_ | refine wM ?_ | refine wS ?_ | refine wP ?_))
        clear hF
        repeat refine evDone ?_
        try (show AW _ _ _ _ _)
        refine AW.ret (retI rfl ?_)
        simp [idxC, idxC_at hno hx hpx, a31_res, resOk, resP, resV, ARes.op, R2s, R2, R1s, R1, closeOk, closeV]
    · have hlt2 : ¬ (i : Int) < ks.length := by omega
      have hF := And.intro (hlt) (hlt2)
      repeat (first | refine wD1 ?_ | refine wD2 ?_ | refine wE1 ?_ | refine wE2 ?_ | refine wN ?_ | ((with_reducible show evIs _ (_ :: _) _ _); first | refine wQ ?_ | refine wF ?_ | refine wG ?_ | refine wT ?_ | refine wM ?_ | refine wS ?_ | refine wP ?_))
      clear hF
      repeat refine evDone ?_
      try (show AW _ _ _ _ _)
      repeat refine AW.seq ?_
      refine AW.condF (by simp []) (by simp []) ?_
      refine AW.exit ?_
      show AW _ _ _ _ _
      repeat refine AW.seq ?_
      refine AW.reg ?_
      have hF := True.intro
      repeat (first | refine wD1 ?_ | refine wD2 ?_ | refine wE1 ?_ | refine wE2 ?_ | refine wN ?_ | ((with_reducible show evIs _ (_ :: _) _ _); first | refine wQ ?_ | refine wF ?_ | refine wG ?_ | refine wT ?_ | refine wM ?_ | refine wS ?_ | refine wP ?_))
      clear hF
      repeat refine evDone ?_
      try (show AW _ _ _ _ _)
      refine AW.ret (retI rfl ?_)
      simp [idxC, idxC_none (fun j hj => hno j (by omega)), a31_res, resOk, resP, resV, ARes.op, R2s, R2, R1s, R1, closeOk, closeV]
def nextC (ks : List Coro) : Int × Bool := match ks.findIdx? ready with | some k => (k, true) | none => (0, false)
theorem f18 (ks : List Coro) (hlen : ks.length ≤ 9223372036854775807) : ACall Try.prog 18 [.sl .fro (ks.map (Coro.av false))] (· = .tup [.int .i64 (nextC ks).1, .bool (nextC ks).2]) := by
  refine a18_of (by simp) ?_
  repeat refine AW.seq ?_
  refine AW.reg ?_
  have hF := True.intro
  repeat (first | refine wD1 ?_ | refine wD2 ?_ | refine wE1 ?_ | refine wE2 ?_ | refine wN ?_ | ((with_reducible show evIs _ (_ :: _) _ _); first | refine wQ ?_ | refine wF ?_ | refine wG ?_ | refine wT ?_ | refine wM ?_ | refine wS ?_ | refine wP ?_))
  clear hF
  repeat refine evDone ?_
  try (show AW _ _ _ _ _)
  repeat refine AW.seq ?_
  refine AW.reg ?_
  have hF := True.intro
  repeat (first | refine wD1 ?_ | refine wD2 ?_ | refine wE1 ?_ | refine wE2 ?_ | refine wN ?_ | ((with_reducible show evIs _ (_ :: _) _ _); first | refine wQ ?_ | refine wF ?_ | refine wG ?_ | refine wT ?_ | refine wM ?_ | refine wS ?_ | refine wP ?_))
  clear hF
  repeat refine evDone ?_
  try (show AW _ _ _ _ _)
  have hF := True.intro
  refine wC (hA := f31 ks hlen) ?_
  clear hF
  have hF := True.intro
  repeat (first | refine wD1 ?_ | refine wD2 ?_ | refine wE1 ?_ | refine wE2 ?_ | refine wN ?_ | ((with_reducible show evIs _ (_ :: _) _ _); first | refine wQ ?_ | refine wF ?_ | refine wG ?_ | refine wT ?_ | refine wM ?_ | refine wS ?_ | refine wP ?_))
  clear hF
  repeat refine evDone ?_
  try (show AW _ _ _ _ _)
  repeat refine AW.seq ?_
  refine AW.reg ?_
  have hr : nextC ks = (if idxC ks ready < 0 then 0 else idxC ks ready, decide (0 ≤ idxC ks ready)) := by
    unfold nextC idxC
    cases ks.findIdx? ready with
    | none => simp
    | some k => simp; omega
  rw [hr]
  generalize idxC ks ready = k
  by_cases hk : k < 0
  · have hk' : ¬ 0 ≤ k := by omega
    have hF := And.intro (hk) (hk')
    repeat (first | refine wD1 ?_ | refine wD2 ?_ | refine wE1 ?_ | refine wE2 ?_ | refine wN ?_ | ((with_reducible show evIs _ (_ :: _) _ _); first | refine wQ ?_ | refine wF ?_ | refine wG ?_ | refine wT ?_ | refine wM ?_ | refine wS ?_ | refine wP ?_))
    clear hF
    repeat refine evDone ?_
    try (show AW _ _ _ _ _)
    refine AW.ret (retI rfl ?_)
    simp [hk, hk', a18_res, resOk, resP, resV, ARes.op, R2s, R2, R1s, R1, closeOk, closeV]
  · have hk' : 0 ≤ k := by omega
    have hF := And.intro (hk) (hk')
    repeat (first | refine wD1 ?_ | refine wD2 ?_ | refine wE1 ?_ | refine wE2 ?_ | refine wN ?_ | ((with_reducible show evIs _ (_ :: _) _ _); first | refine wQ ?_ | refine wF ?_ | refine wG ?_ | refine wT ?_ | refine wM ?_ | refine wS ?_ | refine wP ?_))
    clear hF
    repeat refine evDone ?_
    try (show AW _ _ _ _ _)
    refine AW.ret (retI rfl ?_)
    simp [hk, hk', a18_res, resOk, resP, resV, ARes.op, R2s, R2, R1s, R1, closeOk, closeV]
theorem f19 (ks : List Coro) (hlen : ks.length ≤ 9223372036854775807) : ACall Try.prog 19 [.sl .fro (ks.map (Coro.av false))] (· = .tup [.int .i64 (nextC ks).1, .bool (nextC ks).2]) := by
  refine a19_of (by simp) ?_
  repeat refine AW.seq ?_
  refine AW.reg ?_
  have hF := True.intro
  repeat (first | refine wD1 ?_ | refine wD2 ?_ | refine wE1 ?_ | refine wE2 ?_ | refine wN ?_ | ((with_reducible show evIs _ (_ :: _) _ _); first | refine wQ ?_ | refine wF ?_ | refine wG ?_ | refine wT ?_ | refine wM ?_ | refine wS ?_ | refine wP ?_))
  clear hF
  repeat refine evDone ?_
  try (show AW _ _ _ _ _)
  repeat refine AW.seq ?_
  refine AW.reg ?_
  have hF := True.intro
  repeat (first | refine wD1 ?_ | refine wD2 ?_ | refine wE1 ?_ | refine wE2 ?_ | refine wN ?_ | ((with_reducible show evIs _ (_ :: _) _ _); first | refine wQ ?_ | refine wF ?_ | refine wG ?_ | refine wT ?_ | refine wM ?_ | refine wS ?_ | refine wP ?_))
  clear hF
  repeat refine evDone ?_
  try (show AW _ _ _ _ _)
  repeat refine AW.seq ?_
  refine AW.block ?_
  refine AW.loop (fun i : Nat => i ≤ ks.length ∧ ∀ j, j < i → ∀ x, ks[j]? = some x → ready x = false) (fun i : Nat => mkS [(0, .sl .fro (ks.map (Coro.av false))), (4, .int .i64 i)] [] 0) (fun i => ks.length - i) 0 ⟨by omega, fun j hj => absurd hj (by omega)⟩ ?_ ?_
  · refine Fit.mk _ _ _ (by simp [conv2, newEmp, convs_refl, convs, conv]) (by simp [heapFit, newEmp, conv2s, conv2, convs_refl, convs, conv]) (by intro q hq; first | (simp at hq; done) | (simp at hq; omega) | (simp at hq; simp; omega))
  · rintro i ⟨hi, hno⟩
    repeat refine AW.seq ?_
    refine AW.reg ?_
    by_cases hlt : i < ks.length
    · obtain ⟨x, hx⟩ : ∃ x, ks[i]? = some x := ⟨_, List.getElem?_eq_getElem hlt⟩
      have he := elem_map (f := Coro.av false) hx
      simp only [Coro.av, ko_false] at he
      have hF := hlt
      repeat (first | refine wD1 ?_ | refine wD2 ?_ | refine wE1 ?_ | refine wE2 ?_ | refine wN ?_ | ((with_reducible show evIs _ (_ :: _) _ _); first | refine wQ ?_ | refine wF ?_ | refine wG ?_ | refine wT ?_ | refine wM ?_ | refine wS ?_ | refine wP ?_))
      clear hF
      repeat refine evDone ?_
      try (show AW _ _ _ _ _)
      repeat refine AW.seq ?_
      refine AW.condT (by simp []) (by simp []) ?_
      refine AW.skip ?_
      show AW _ _ _ _ _
      refine AW.seq (AW.block ?_)
      repeat refine AW.seq ?_
      refine AW.reg ?_
      have hrd : ready x = decide (x.state = 1) := by unfold ready; by_cases h : x.state = 1 <;> simp [h]
      by_cases hpx : x.state = 1
      · have hF := And.intro (hlt) (And.intro (he) (hpx))
        repeat (first | refine wD1 ?_ | refine wD2 ?_ | refine wE1 ?_ | refine wE2 ?_ | refine wN ?_ | ((with_reducible show evIs _ (_ :: _) _ _); first | refine wQ ?_ | refine wF ?_ | refine wG ?_ | refine wT ?_ | refine wM ?_ | refine wS ?_ | refine wP ?_))
        clear hF
        repeat refine evDone ?_
        try (show AW _ _ _ _ _)
        repeat refine AW.seq ?_
        refine AW.condT (by simp []) (by simp []) ?_
        repeat refine AW.seq ?_
        refine AW.reg ?_
        have hF := True.intro
        repeat (first | refine wD1 ?_ | refine wD2 ?_ | refine wE1 ?_ | refine wE2 ?_ | refine wN ?_ | ((with_reducible show evIs _ (_ :: _) _ _); first | refine wQ ?_ | refine wF ?_ | refine wG ?_ | refine wT ?_ | refine wM ?_ | refine wS ?_ | refine wP ?_))
        clear hF
        repeat refine evDone ?_
        try (show AW _ _ _ _ _)
        refine AW.ret (retI rfl ?_)
        simp [nextC, idxC_at hno hx (by rw [hrd]; simp [hpx]), a19_res, resOk, resP, resV, ARes.op, R2s, R2, R1s, R1, closeOk, closeV]
      · have hF := And.intro (hlt) (And.intro (he) (hpx))
        repeat (first | refine wD1 ?_ | refine wD2 ?_ | refine wE1 ?_ | refine wE2 ?_ | refine wN ?_ | ((with_reducible show evIs _ (_ :: _) _ _); first | refine wQ ?_ | refine wF ?_ | refine wG ?_ | refine wT ?_ | refine wM ?_ | refine wS ?_ | refine wP ?_))
        clear hF
        repeat refine evDone ?_
        try (show AW _ _ _ _ _)
        repeat refine AW.seq ?_
        refine AW.condF (by simp [hpx]) (by simp [hpx]) ?_
        refine AW.skip ?_
        show AW _ _ _ _ _
        refine AW.reg ?_
        have hw : IntKind.i64.wrap ((i : Int) + 1) = (i : Int) + 1 := i64_in _ ⟨by omega, by omega⟩
        have hF := hw
        repeat (first | refine wD1 ?_ | refine wD2 ?_ | refine wE1 ?_ | refine wE2 ?_ | refine wN ?_ | ((with_reducible show evIs _ (_ :: _) _ _); first | refine wQ ?_ | refine wF ?_ | refine wG ?_ | refine wT ?_ | refine wM ?_ | refine wS ?_ | refine wP ?_))
        clear hF
        repeat refine evDone ?_
        try (show AW _ _ _ _ _)
        refine ⟨i + 1, ⟨by omega, ?_⟩, by omega, ?_⟩
        · intro j hj y hy
          by_cases hji : j = i
          · subst hji; rw [hx] at hy; injection hy with hy; subst hy; rw [hrd]; simp [hpx]
          · exact hno j (by omega) y hy
        · refine Fit.mk _ _ _ (by simp [hw, conv2, newEmp, convs_refl, convs, conv]) (by simp [hw, heapFit, newEmp, conv2s, conv2, convs_refl, convs, conv]) (by intro q hq; first | (simp at hq; done) | (simp at hq; omega) | (simp at hq; simp; omega))
    · have hlt2 : ¬ (i : Int) < ks.length := by omega
      have hF := And.intro (hlt) (hlt2)
      repeat (first | refine wD1 ?_ | refine wD2 ?_ | refine wE1 ?_ | refine wE2 ?_ | refine wN ?_ | ((with_reducible show evIs _ (_ :: _) _ _); first | refine wQ ?_ | refine wF ?_ | refine wG ?_ | refine wT ?_ | refine wM ?_ | refine wS ?_ | refine wP ?_))
      clear hF
      repeat refine evDone ?_
      try (show AW _ _ _ _ _)
      repeat refine AW.seq ?_
      refine AW.condF (by simp []) (by simp []) ?_
      refine AW.exit ?_
      show AW _ _ _ _ _
      repeat refine AW.seq ?_
      refine AW.reg ?_
      have hF := True.intro
      repeat (first | refine wD1 ?_ | refine wD2 ?_ | refine wE1 ?_ | refine wE2 ?_ | refine wN ?_ | ((with_reducible show evIs _ (_ :: _) _ _); first | refine wQ ?_ | refine wF ?_ | refine wG ?_ | refine wT ?_ | refine wM ?_ | refine wS ?_ | refine wP ?_))
      clear hF
      repeat refine evDone ?_
      try (show AW _ _ _ _ _)
      refine AW.ret (retI rfl ?_)
      simp [nextC, idxC_none (fun j hj => hno j (by omega)), a19_res, resOk, resP, resV, ARes.op, R2s, R2, R1s, R1, closeOk, closeV]

/-- The positions among the first n of which p holds. -/
def upTo (p : Nat → Bool) : Nat → List Int
  | 0 => []
  | n + 1 => if p n then upTo p n ++ [(n : Int)] else upTo p n
theorem upTo_len (p : Nat → Bool) : ∀ n, (upTo p n).length ≤ n
  | 0 => by simp [upTo]
  | n + 1 => by
    have := upTo_len p n
    unfold upTo
    split
    · simp; omega
    · omega
def blk (ks : List Coro) (i : Nat) : Bool := match ks[i]? with | some c => c.state == 2 | none => false
theorem f17 (ks : List Coro) (hl : ks.length * 8 ≤ 140737488355328) : ACall Try.prog 17 [.sl .fro (ks.map (Coro.av false))] (· = .sl (.own 1) ((upTo (blk ks) ks.length).map (AV.int .i64))) := by
  refine a17_of (by simp) ?_
  repeat refine AW.seq ?_
  refine AW.reg ?_
  have hF := True.intro
  repeat (first | refine wD1 ?_ | refine wD2 ?_ | refine wE1 ?_ | refine wE2 ?_ | refine wN ?_ | ((with_reducible show evIs _ (_ :: _) _ _); first | refine wQ ?_ | refine wF ?_ | refine wG ?_ | refine wT ?_ | refine wM ?_ | refine wS ?_ | refine wP ?_))
  clear hF
  repeat refine evDone ?_
  try (show AW _ _ _ _ _)
  repeat refine AW.seq ?_
  refine AW.reg ?_
  have hF := True.intro
  repeat (first | refine wD1 ?_ | refine wD2 ?_ | refine wE1 ?_ | refine wE2 ?_ | refine wN ?_ | ((with_reducible show evIs _ (_ :: _) _ _); first | refine wQ ?_ | refine wF ?_ | refine wG ?_ | refine wT ?_ | refine wM ?_ | refine wS ?_ | refine wP ?_))
  clear hF
  repeat refine evDone ?_
  try (show AW _ _ _ _ _)
  repeat refine AW.seq ?_
  refine AW.reg ?_
  have hF := True.intro
  repeat (first | refine wD1 ?_ | refine wD2 ?_ | refine wE1 ?_ | refine wE2 ?_ | refine wN ?_ | ((with_reducible show evIs _ (_ :: _) _ _); first | refine wQ ?_ | refine wF ?_ | refine wG ?_ | refine wT ?_ | refine wM ?_ | refine wS ?_ | refine wP ?_))
  clear hF
  repeat refine evDone ?_
  try (show AW _ _ _ _ _)
  repeat refine AW.seq ?_
  refine AW.block ?_
  refine AW.loop (fun g : Nat × Nat × Nat => g.1 ≤ ks.length ∧ g.2.2 < g.2.1) (fun g => mkS [(3, .hdr g.2.2 0 (upTo (blk ks) g.1).length), (6, .sl .fro (ks.map (Coro.av false))), (7, .int .i64 ks.length), (8, .int .i64 g.1)] [(g.2.2, ⟨1, false, (upTo (blk ks) g.1).map (AV.int .i64)⟩)] g.2.1) (fun g => ks.length - g.1) (0, 1, 0) ⟨by simp, by simp⟩ ?_ ?_
  · refine Fit.mk _ _ _ (by simp [upTo, conv2, newEmp, convs_refl, convs, conv]) (by simp [upTo, heapFit, newEmp, conv2s, conv2, convs_refl, convs, conv]) (by intro q hq; first | (simp at hq; done) | (simp at hq; omega) | (simp at hq; simp; omega))
  · rintro ⟨i, n, r⟩ ⟨hi, hr⟩
    dsimp only at hi hr ⊢
    have hne : ∀ k, (r = n + k) = False := fun k => eq_false (by omega)
    have hne' : ∀ k, (n + k = r) = False := fun k => eq_false (by omega)
    have hnl : ∀ k, (n + k < n) = False := fun k => eq_false (by omega)
    have hrn : ∀ k, r < n + k := fun k => by omega
    have hul := upTo_len (blk ks) i
    repeat refine AW.seq ?_
    refine AW.reg ?_
    by_cases hlt : i < ks.length
    · obtain ⟨x, hx⟩ : ∃ x, ks[i]? = some x := ⟨_, List.getElem?_eq_getElem hlt⟩
      have he := elem_map (f := Coro.av false) hx
      simp only [Coro.av, ko_false] at he
      have hw : IntKind.i64.wrap ((i : Int) + 1) = (i : Int) + 1 := i64_in _ ⟨by omega, by omega⟩
      have hby : ((upTo (blk ks) i).length + 1) * 8 ≤ 140737488355328 := by omega
      have hby2 : (upTo (blk ks) i).length + 1 ≤ 9223372036854775807 := by omega
      have hF := hlt
      repeat (first | refine wD1 ?_ | refine wD2 ?_ | refine wE1 ?_ | refine wE2 ?_ | refine wN ?_ | ((with_reducible show evIs _ (_ :: _) _ _); first | refine wQ ?_ | refine wF ?_ | refine wG ?_ | refine wT ?_ | refine wM ?_ | refine wS ?_ | refine wP ?_))
      clear hF
      repeat refine evDone ?_
      try (show AW _ _ _ _ _)
      repeat refine AW.seq ?_
      refine AW.condT (by simp []) (by simp []) ?_
      refine AW.skip ?_
      show AW _ _ _ _ _
      refine AW.seq (AW.block ?_)
      repeat refine AW.seq ?_
      refine AW.reg ?_
      have hF := And.intro (hlt) (And.intro (he) (And.intro (hne) (And.intro (hne') (hnl))))
      repeat (first | refine wD1 ?_ | refine wD2 ?_ | refine wE1 ?_ | refine wE2 ?_ | refine wN ?_ | ((with_reducible show evIs _ (_ :: _) _ _); first | refine wQ ?_ | refine wF ?_ | refine wG ?_ | refine wT ?_ | refine wM ?_ | refine wS ?_ | refine wP ?_))
      clear hF
      repeat refine evDone ?_
      try (show AW _ _ _ _ _)
      repeat refine AW.seq ?_
      refine AW.reg ?_
      by_cases hs : x.state = 2
      · have hbk : blk ks i = true := by simp [blk, hx, hs]
        have hF := And.intro (hlt) (And.intro (he) (And.intro (hs) (And.intro (hne) (And.intro (hne') (hnl)))))
        repeat (first | refine wD1 ?_ | refine wD2 ?_ | refine wE1 ?_ | refine wE2 ?_ | refine wN ?_ | ((with_reducible show evIs _ (_ :: _) _ _); first | refine wQ ?_ | refine wF ?_ | refine wG ?_ | refine wT ?_ | refine wM ?_ | refine wS ?_ | refine wP ?_))
        clear hF
        repeat refine evDone ?_
        try (show AW _ _ _ _ _)
        repeat refine AW.seq ?_
        refine AW.condT (by simp []) (by simp []) ?_
        repeat refine AW.seq ?_
        refine AW.reg ?_
        have hF := And.intro (hne) (And.intro (hne') (And.intro (hnl) (And.intro (hby) (hby2))))
        repeat (first | refine wD1 ?_ | refine wD2 ?_ | refine wE1 ?_ | refine wE2 ?_ | refine wN ?_ | ((with_reducible show evIs _ (_ :: _) _ _); first | refine wQ ?_ | refine wF ?_ | refine wG ?_ | refine wT ?_ | refine wM ?_ | refine wS ?_ | refine wP ?_))
        clear hF
        repeat refine evDone ?_
        try (show AW _ _ _ _ _)
        refine AW.reg ?_
        have hF := hw
        repeat (first | refine wD1 ?_ | refine wD2 ?_ | refine wE1 ?_ | refine wE2 ?_ | refine wN ?_ | ((with_reducible show evIs _ (_ :: _) _ _); first | refine wQ ?_ | refine wF ?_ | refine wG ?_ | refine wT ?_ | refine wM ?_ | refine wS ?_ | refine wP ?_))
        clear hF
        repeat refine evDone ?_
        try (show AW _ _ _ _ _)
        refine ⟨(i + 1, n + 60, n + 18), ⟨by dsimp only; omega, by dsimp only; omega⟩, by dsimp only; omega, ?_⟩
        refine Fit.mk _ _ _ (by simp [hw, hne, hne', hrn, upTo, hbk, conv2, newEmp, convs_refl, convs, conv]) (by simp [hw, hne, hne', hrn, upTo, hbk, heapFit, newEmp, conv2s, conv2, convs_refl, convs, conv]) (by intro q hq; first | (simp at hq; done) | (simp at hq; omega) | (simp at hq; simp; omega))
      · have hbk : blk ks i = false := by simp [blk, hx, hs]
        have hF := And.intro (hlt) (And.intro (he) (And.intro (hs) (And.intro (hne) (And.intro (hne') (hnl)))))
        repeat (first | refine wD1 ?_ | refine wD2 ?_ | refine wE1 ?_ | refine wE2 ?_ | refine wN ?_ | ((with_reducible show evIs _ (_ :: _) _ _); first | refine wQ ?_ | refine wF ?_ | refine wG ?_ | refine wT ?_ | refine wM ?_ | refine wS ?_ | refine wP ?_))
        clear hF
        repeat refine evDone ?_
        try (show AW _ _ _ _ _)
        repeat refine AW.seq ?_
        refine AW.condF (by simp [hs]) (by simp [hs]) ?_
        refine AW.skip ?_
        show AW _ _ _ _ _
        refine AW.reg ?_
        have hF := hw
        repeat (first | refine wD1 ?_ | refine wD2 ?_ | refine wE1 ?_ | refine wE2 ?_ | refine wN ?_ | ((with_reducible show evIs _ (_ :: _) _ _); first | refine wQ ?_ | refine wF ?_ | refine wG ?_ | refine wT ?_ | refine wM ?_ | refine wS ?_ | refine wP ?_))
        clear hF
        repeat refine evDone ?_
        try (show AW _ _ _ _ _)
        refine ⟨(i + 1, n + 60, r), ⟨by dsimp only; omega, by dsimp only; omega⟩, by dsimp only; omega, ?_⟩
        refine Fit.mk _ _ _ (by simp [hw, hne, hne', hrn, upTo, hbk, conv2, newEmp, convs_refl, convs, conv]) (by simp [hw, hne, hne', hrn, upTo, hbk, heapFit, newEmp, conv2s, conv2, convs_refl, convs, conv]) (by intro q hq; first | (simp at hq; done) | (simp at hq; omega) | (simp at hq; simp; omega))
    · have hlt2 : ¬ (i : Int) < ks.length := by omega
      have hF := And.intro (hlt) (hlt2)
      repeat (first | refine wD1 ?_ | refine wD2 ?_ | refine wE1 ?_ | refine wE2 ?_ | refine wN ?_ | ((with_reducible show evIs _ (_ :: _) _ _); first | refine wQ ?_ | refine wF ?_ | refine wG ?_ | refine wT ?_ | refine wM ?_ | refine wS ?_ | refine wP ?_))
      clear hF
      repeat refine evDone ?_
      try (show AW _ _ _ _ _)
      repeat refine AW.seq ?_
      refine AW.condF (by simp []) (by simp []) ?_
      have hii : i = ks.length := by omega
      subst hii
      have ht : ((upTo (blk ks) ks.length).map (AV.int .i64)).take (upTo (blk ks) ks.length).length = (upTo (blk ks) ks.length).map (AV.int .i64) := List.take_of_length_le (by simp)
      refine AW.exit ?_
      show AW _ _ _ _ _
      repeat refine AW.seq ?_
      refine AW.reg ?_
      have hF := True.intro
      repeat (first | refine wD1 ?_ | refine wD2 ?_ | refine wE1 ?_ | refine wE2 ?_ | refine wN ?_ | ((with_reducible show evIs _ (_ :: _) _ _); first | refine wQ ?_ | refine wF ?_ | refine wG ?_ | refine wT ?_ | refine wM ?_ | refine wS ?_ | refine wP ?_))
      clear hF
      repeat refine evDone ?_
      try (show AW _ _ _ _ _)
      refine AW.ret (retI rfl ?_)
      simp [ht, a17_res, resOk, resP, resV, ARes.op, R2s, R2, R1s, R1, closeOk, closeV]
theorem f20 (ks : List Coro) (hl : ks.length * 8 ≤ 140737488355328) : ACall Try.prog 20 [.sl .fro (ks.map (Coro.av false))] (· = .sl (.own 1) ((upTo (blk ks) ks.length).map (AV.int .i64))) := by
  refine a20_of (by simp) ?_
  repeat refine AW.seq ?_
  refine AW.reg ?_
  have hF := True.intro
  repeat (first | refine wD1 ?_ | refine wD2 ?_ | refine wE1 ?_ | refine wE2 ?_ | refine wN ?_ | ((with_reducible show evIs _ (_ :: _) _ _); first | refine wQ ?_ | refine wF ?_ | refine wG ?_ | refine wT ?_ | refine wM ?_ | refine wS ?_ | refine wP ?_))
  clear hF
  repeat refine evDone ?_
  try (show AW _ _ _ _ _)
  repeat refine AW.seq ?_
  refine AW.reg ?_
  have hF := True.intro
  repeat (first | refine wD1 ?_ | refine wD2 ?_ | refine wE1 ?_ | refine wE2 ?_ | refine wN ?_ | ((with_reducible show evIs _ (_ :: _) _ _); first | refine wQ ?_ | refine wF ?_ | refine wG ?_ | refine wT ?_ | refine wM ?_ | refine wS ?_ | refine wP ?_))
  clear hF
  repeat refine evDone ?_
  try (show AW _ _ _ _ _)
  repeat refine AW.seq ?_
  refine AW.reg ?_
  have hF := True.intro
  repeat (first | refine wD1 ?_ | refine wD2 ?_ | refine wE1 ?_ | refine wE2 ?_ | refine wN ?_ | ((with_reducible show evIs _ (_ :: _) _ _); first | refine wQ ?_ | refine wF ?_ | refine wG ?_ | refine wT ?_ | refine wM ?_ | refine wS ?_ | refine wP ?_))
  clear hF
  repeat refine evDone ?_
  try (show AW _ _ _ _ _)
  repeat refine AW.seq ?_
  refine AW.block ?_
  refine AW.loop (fun g : Nat × Nat × Nat => g.1 ≤ ks.length ∧ g.2.2 < g.2.1) (fun g => mkS [(0, .sl .fro (ks.map (Coro.av false))), (3, .hdr g.2.2 0 (upTo (blk ks) g.1).length), (4, .int .i64 g.1)] [(g.2.2, ⟨1, false, (upTo (blk ks) g.1).map (AV.int .i64)⟩)] g.2.1) (fun g => ks.length - g.1) (0, 1, 0) ⟨by simp, by simp⟩ ?_ ?_
  · refine Fit.mk _ _ _ (by simp [upTo, conv2, newEmp, convs_refl, convs, conv]) (by simp [upTo, heapFit, newEmp, conv2s, conv2, convs_refl, convs, conv]) (by intro q hq; first | (simp at hq; done) | (simp at hq; omega) | (simp at hq; simp; omega))
  · rintro ⟨i, n, r⟩ ⟨hi, hr⟩
    dsimp only at hi hr ⊢
    have hne : ∀ k, (r = n + k) = False := fun k => eq_false (by omega)
    have hne' : ∀ k, (n + k = r) = False := fun k => eq_false (by omega)
    have hnl : ∀ k, (n + k < n) = False := fun k => eq_false (by omega)
    have hrn : ∀ k, r < n + k := fun k => by omega
    have hul := upTo_len (blk ks) i
    repeat refine AW.seq ?_
    refine AW.reg ?_
    by_cases hlt : i < ks.length
    · obtain ⟨x, hx⟩ : ∃ x, ks[i]? = some x := ⟨_, List.getElem?_eq_getElem hlt⟩
      have he := elem_map (f := Coro.av false) hx
      simp only [Coro.av, ko_false] at he
      have hw : IntKind.i64.wrap ((i : Int) + 1) = (i : Int) + 1 := i64_in _ ⟨by omega, by omega⟩
      have hby : ((upTo (blk ks) i).length + 1) * 8 ≤ 140737488355328 := by omega
      have hby2 : (upTo (blk ks) i).length + 1 ≤ 9223372036854775807 := by omega
      have hF := hlt
      repeat (first | refine wD1 ?_ | refine wD2 ?_ | refine wE1 ?_ | refine wE2 ?_ | refine wN ?_ | ((with_reducible show evIs _ (_ :: _) _ _); first | refine wQ ?_ | refine wF ?_ | refine wG ?_ | refine wT ?_ | refine wM ?_ | refine wS ?_ | refine wP ?_))
      clear hF
      repeat refine evDone ?_
      try (show AW _ _ _ _ _)
      repeat refine AW.seq ?_
      refine AW.condT (by simp []) (by simp []) ?_
      refine AW.skip ?_
      show AW _ _ _ _ _
      refine AW.seq (AW.block ?_)
      repeat refine AW.seq ?_
      refine AW.reg ?_
      by_cases hs : x.state = 2
      · have hbk : blk ks i = true := by simp [blk, hx, hs]
        have hF := And.intro (hlt) (And.intro (he) (And.intro (hs) (And.intro (hne) (And.intro (hne') (hnl)))))
        repeat (first | refine wD1 ?_ | refine wD2 ?_ | refine wE1 ?_ | refine wE2 ?_ | refine wN ?_ | ((with_reducible show evIs _ (_ :: _) _ _); first | refine wQ ?_ | refine wF ?_ | refine wG ?_ | refine wT ?_ | refine wM ?_ | refine wS ?_ | refine wP ?_))
        clear hF
        repeat refine evDone ?_
        try (show AW _ _ _ _ _)
        repeat refine AW.seq ?_
        refine AW.condT (by simp []) (by simp []) ?_
        repeat refine AW.seq ?_
        refine AW.reg ?_
        have hF := And.intro (hne) (And.intro (hne') (And.intro (hnl) (And.intro (hby) (hby2))))
        repeat (first | refine wD1 ?_ | refine wD2 ?_ | refine wE1 ?_ | refine wE2 ?_ | refine wN ?_ | ((with_reducible show evIs _ (_ :: _) _ _); first | refine wQ ?_ | refine wF ?_ | refine wG ?_ | refine wT ?_ | refine wM ?_ | refine wS ?_ | refine wP ?_))
        clear hF
        repeat refine evDone ?_
        try (show AW _ _ _ _ _)
        refine AW.reg ?_
        have hF := hw
        repeat (first | refine wD1 ?_ | refine wD2 ?_ | refine wE1 ?_ | refine wE2 ?_ | refine wN ?_ | ((with_reducible show evIs _ (_ :: _) _ _); first | refine wQ ?_ | refine wF ?_ | refine wG ?_ | refine wT ?_ | refine wM ?_ | refine wS ?_ | refine wP ?_))
        clear hF
        repeat refine evDone ?_
        try (show AW _ _ _ _ _)
        refine ⟨(i + 1, n + 60, n + 16), ⟨by dsimp only; omega, by dsimp only; omega⟩, by dsimp only; omega, ?_⟩
        refine Fit.mk _ _ _ (by simp [hw, hne, hne', hrn, upTo, hbk, conv2, newEmp, convs_refl, convs, conv]) (by simp [hw, hne, hne', hrn, upTo, hbk, heapFit, newEmp, conv2s, conv2, convs_refl, convs, conv]) (by intro q hq; first | (simp at hq; done) | (simp at hq; omega) | (simp at hq; simp; omega))
      · have hbk : blk ks i = false := by simp [blk, hx, hs]
        have hF := And.intro (hlt) (And.intro (he) (And.intro (hs) (And.intro (hne) (And.intro (hne') (hnl)))))
        repeat (first | refine wD1 ?_ | refine wD2 ?_ | refine wE1 ?_ | refine wE2 ?_ | refine wN ?_ | ((with_reducible show evIs _ (_ :: _) _ _); first | refine wQ ?_ | refine wF ?_ | refine wG ?_ | refine wT ?_ | refine wM ?_ | refine wS ?_ | refine wP ?_))
        clear hF
        repeat refine evDone ?_
        try (show AW _ _ _ _ _)
        repeat refine AW.seq ?_
        refine AW.condF (by simp [hs]) (by simp [hs]) ?_
        refine AW.skip ?_
        show AW _ _ _ _ _
        refine AW.reg ?_
        have hF := hw
        repeat (first | refine wD1 ?_ | refine wD2 ?_ | refine wE1 ?_ | refine wE2 ?_ | refine wN ?_ | ((with_reducible show evIs _ (_ :: _) _ _); first | refine wQ ?_ | refine wF ?_ | refine wG ?_ | refine wT ?_ | refine wM ?_ | refine wS ?_ | refine wP ?_))
        clear hF
        repeat refine evDone ?_
        try (show AW _ _ _ _ _)
        refine ⟨(i + 1, n + 60, r), ⟨by dsimp only; omega, by dsimp only; omega⟩, by dsimp only; omega, ?_⟩
        refine Fit.mk _ _ _ (by simp [hw, hne, hne', hrn, upTo, hbk, conv2, newEmp, convs_refl, convs, conv]) (by simp [hw, hne, hne', hrn, upTo, hbk, heapFit, newEmp, conv2s, conv2, convs_refl, convs, conv]) (by intro q hq; first | (simp at hq; done) | (simp at hq; omega) | (simp at hq; simp; omega))
    · have hlt2 : ¬ (i : Int) < ks.length := by omega
      have hF := And.intro (hlt) (hlt2)
      repeat (first | refine wD1 ?_ | refine wD2 ?_ | refine wE1 ?_ | refine wE2 ?_ | refine wN ?_ | ((with_reducible show evIs _ (_ :: _) _ _); first | refine wQ ?_ | refine wF ?_ | refine wG ?_ | refine wT ?_ | refine wM ?_ | refine wS ?_ | refine wP ?_))
      clear hF
      repeat refine evDone ?_
      try (show AW _ _ _ _ _)
      repeat refine AW.seq ?_
      refine AW.condF (by simp []) (by simp []) ?_
      have hii : i = ks.length := by omega
      subst hii
      have ht : ((upTo (blk ks) ks.length).map (AV.int .i64)).take (upTo (blk ks) ks.length).length = (upTo (blk ks) ks.length).map (AV.int .i64) := List.take_of_length_le (by simp)
      refine AW.exit ?_
      show AW _ _ _ _ _
      repeat refine AW.seq ?_
      refine AW.reg ?_
      have hF := True.intro
      repeat (first | refine wD1 ?_ | refine wD2 ?_ | refine wE1 ?_ | refine wE2 ?_ | refine wN ?_ | ((with_reducible show evIs _ (_ :: _) _ _); first | refine wQ ?_ | refine wF ?_ | refine wG ?_ | refine wT ?_ | refine wM ?_ | refine wS ?_ | refine wP ?_))
      clear hF
      repeat refine evDone ?_
      try (show AW _ _ _ _ _)
      refine AW.ret (retI rfl ?_)
      simp [ht, a20_res, resOk, resP, resV, ARes.op, R2s, R2, R1s, R1, closeOk, closeV]

theorem f6 (ks : List Coro) (hl : ks.length * 88 ≤ 140737488355328) (hok : ∀ c ∈ ks, c.ok ∧ cw c * 80 ≤ 140737488355328) : ACall Try.prog 6 [.sl .fro (ks.map (Coro.av false))] (· = .bool true) := by
  have hul := upTo_len (blk ks) ks.length
  refine a6_of (by simp) ?_
  repeat refine AW.seq ?_
  refine AW.reg ?_
  have hF := True.intro
  repeat (first | refine wD1 ?_ | refine wD2 ?_ | refine wE1 ?_ | refine wE2 ?_ | refine wN ?_ | ((with_reducible show evIs _ (_ :: _) _ _); first | refine wQ ?_ | refine wF ?_ | refine wG ?_ | refine wT ?_ | refine wM ?_ | refine wS ?_ | refine wP ?_))
  clear hF
  repeat refine evDone ?_
  try (show AW _ _ _ _ _)
  repeat refine AW.seq ?_
  refine AW.reg ?_
  have hF := True.intro
  repeat (first | refine wD1 ?_ | refine wD2 ?_ | refine wE1 ?_ | refine wE2 ?_ | refine wN ?_ | ((with_reducible show evIs _ (_ :: _) _ _); first | refine wQ ?_ | refine wF ?_ | refine wG ?_ | refine wT ?_ | refine wM ?_ | refine wS ?_ | refine wP ?_))
  clear hF
  repeat refine evDone ?_
  try (show AW _ _ _ _ _)
  have hF := True.intro
  refine wB (hA := f12 ks (by omega) hok) ?_
  clear hF
  intro b _
  cases b
  · have hF := True.intro
    repeat (first | refine wD1 ?_ | refine wD2 ?_ | refine wE1 ?_ | refine wE2 ?_ | refine wN ?_ | ((with_reducible show evIs _ (_ :: _) _ _); first | refine wQ ?_ | refine wF ?_ | refine wG ?_ | refine wT ?_ | refine wM ?_ | refine wS ?_ | refine wP ?_))
    clear hF
    repeat refine evDone ?_
    try (show AW _ _ _ _ _)
    repeat refine AW.seq ?_
    refine AW.condT (by simp []) (by simp []) ?_
    repeat refine AW.seq ?_
    refine AW.reg ?_
    have hF := True.intro
    repeat (first | refine wD1 ?_ | refine wD2 ?_ | refine wE1 ?_ | refine wE2 ?_ | refine wN ?_ | ((with_reducible show evIs _ (_ :: _) _ _); first | refine wQ ?_ | refine wF ?_ | refine wG ?_ | refine wT ?_ | refine wM ?_ | refine wS ?_ | refine wP ?_))
    clear hF
    repeat refine evDone ?_
    try (show AW _ _ _ _ _)
    have hF := True.intro
    refine wC (hA := f7) ?_
    clear hF
    have hF := True.intro
    repeat (first | refine wD1 ?_ | refine wD2 ?_ | refine wE1 ?_ | refine wE2 ?_ | refine wN ?_ | ((with_reducible show evIs _ (_ :: _) _ _); first | refine wQ ?_ | refine wF ?_ | refine wG ?_ | refine wT ?_ | refine wM ?_ | refine wS ?_ | refine wP ?_))
    clear hF
    repeat refine evDone ?_
    try (show AW _ _ _ _ _)
    refine AW.ret (retI rfl ?_)
    simp [a6_res, resOk, resP, resV, ARes.op, R2s, R2, R1s, R1, closeOk, closeV]
  · have hF := True.intro
    repeat (first | refine wD1 ?_ | refine wD2 ?_ | refine wE1 ?_ | refine wE2 ?_ | refine wN ?_ | ((with_reducible show evIs _ (_ :: _) _ _); first | refine wQ ?_ | refine wF ?_ | refine wG ?_ | refine wT ?_ | refine wM ?_ | refine wS ?_ | refine wP ?_))
    clear hF
    repeat refine evDone ?_
    try (show AW _ _ _ _ _)
    repeat refine AW.seq ?_
    refine AW.condF (by simp []) (by simp []) ?_
    refine AW.skip ?_
    show AW _ _ _ _ _
    repeat refine AW.seq ?_
    refine AW.reg ?_
    have hF := True.intro
    repeat (first | refine wD1 ?_ | refine wD2 ?_ | refine wE1 ?_ | refine wE2 ?_ | refine wN ?_ | ((with_reducible show evIs _ (_ :: _) _ _); first | refine wQ ?_ | refine wF ?_ | refine wG ?_ | refine wT ?_ | refine wM ?_ | refine wS ?_ | refine wP ?_))
    clear hF
    repeat refine evDone ?_
    try (show AW _ _ _ _ _)
    have hF := True.intro
    refine wC (hA := f18 ks (by omega)) ?_
    clear hF
    have hF := True.intro
    repeat (first | refine wD1 ?_ | refine wD2 ?_ | refine wE1 ?_ | refine wE2 ?_ | refine wN ?_ | ((with_reducible show evIs _ (_ :: _) _ _); first | refine wQ ?_ | refine wF ?_ | refine wG ?_ | refine wT ?_ | refine wM ?_ | refine wS ?_ | refine wP ?_))
    clear hF
    repeat refine evDone ?_
    try (show AW _ _ _ _ _)
    repeat refine AW.seq ?_
    refine AW.reg ?_
    have hF := True.intro
    repeat (first | refine wD1 ?_ | refine wD2 ?_ | refine wE1 ?_ | refine wE2 ?_ | refine wN ?_ | ((with_reducible show evIs _ (_ :: _) _ _); first | refine wQ ?_ | refine wF ?_ | refine wG ?_ | refine wT ?_ | refine wM ?_ | refine wS ?_ | refine wP ?_))
    clear hF
    repeat refine evDone ?_
    try (show AW _ _ _ _ _)
    have hF := True.intro
    refine wC (hA := f19 ks (by omega)) ?_
    clear hF
    have hF := True.intro
    repeat (first | refine wD1 ?_ | refine wD2 ?_ | refine wE1 ?_ | refine wE2 ?_ | refine wN ?_ | ((with_reducible show evIs _ (_ :: _) _ _); first | refine wQ ?_ | refine wF ?_ | refine wG ?_ | refine wT ?_ | refine wM ?_ | refine wS ?_ | refine wP ?_))
    clear hF
    repeat refine evDone ?_
    try (show AW _ _ _ _ _)
    repeat refine AW.seq ?_
    refine AW.reg ?_
    have hF := True.intro
    repeat (first | refine wD1 ?_ | refine wD2 ?_ | refine wE1 ?_ | refine wE2 ?_ | refine wN ?_ | ((with_reducible show evIs _ (_ :: _) _ _); first | refine wQ ?_ | refine wF ?_ | refine wG ?_ | refine wT ?_ | refine wM ?_ | refine wS ?_ | refine wP ?_))
    clear hF
    repeat refine evDone ?_
    try (show AW _ _ _ _ _)
    have hF := True.intro
    refine wC (hA := f17 ks (by omega)) ?_
    clear hF
    have hF := True.intro
    repeat (first | refine wD1 ?_ | refine wD2 ?_ | refine wE1 ?_ | refine wE2 ?_ | refine wN ?_ | ((with_reducible show evIs _ (_ :: _) _ _); first | refine wQ ?_ | refine wF ?_ | refine wG ?_ | refine wT ?_ | refine wM ?_ | refine wS ?_ | refine wP ?_))
    clear hF
    repeat refine evDone ?_
    try (show AW _ _ _ _ _)
    have hF := True.intro
    refine wC (hA := f20 ks (by omega)) ?_
    clear hF
    have hF := True.intro
    repeat (first | refine wD1 ?_ | refine wD2 ?_ | refine wE1 ?_ | refine wE2 ?_ | refine wN ?_ | ((with_reducible show evIs _ (_ :: _) _ _); first | refine wQ ?_ | refine wF ?_ | refine wG ?_ | refine wT ?_ | refine wM ?_ | refine wS ?_ | refine wP ?_))
    clear hF
    repeat refine evDone ?_
    try (show AW _ _ _ _ _)
    have hF := True.intro
    refine wC (hA := f16 (upTo (blk ks) ks.length) (by omega)) ?_
    clear hF
    have hF := True.intro
    repeat (first | refine wD1 ?_ | refine wD2 ?_ | refine wE1 ?_ | refine wE2 ?_ | refine wN ?_ | ((with_reducible show evIs _ (_ :: _) _ _); first | refine wQ ?_ | refine wF ?_ | refine wG ?_ | refine wT ?_ | refine wM ?_ | refine wS ?_ | refine wP ?_))
    clear hF
    repeat refine evDone ?_
    try (show AW _ _ _ _ _)
    have hF := True.intro
    refine wC (hA := f7) ?_
    clear hF
    have hF := True.intro
    repeat (first | refine wD1 ?_ | refine wD2 ?_ | refine wE1 ?_ | refine wE2 ?_ | refine wN ?_ | ((with_reducible show evIs _ (_ :: _) _ _); first | refine wQ ?_ | refine wF ?_ | refine wG ?_ | refine wT ?_ | refine wM ?_ | refine wS ?_ | refine wP ?_))
    clear hF
    repeat refine evDone ?_
    try (show AW _ _ _ _ _)
    refine AW.ret (retI rfl ?_)
    simp [a6_res, resOk, resP, resV, ARes.op, R2s, R2, R1s, R1, closeOk, closeV]
end Go.Proofs.Ytnjdjahcepakgaa

set_option linter.unusedSimpArgs false
set_option linter.unusedVariables false
set_option maxHeartbeats 4000000
namespace Go.Proofs.Ytnjdjahcepakgaa
open Go Go.Amb Go.IntWalk

section
variable {H : Type} {enc : TypeId × Value → H} {w : World} {n : Nat} {cs : List Value} {x : DataW H × List MemPlace}
theorem bulkOf : BulkOf (H := H) Rows.uptoBulk Rows.uptoBulkAll where
  agg _ := by simp [Rows.uptoBulk]
  sl _ _ := by simp [Rows.uptoBulk]
  nil := by simp [Rows.uptoBulkAll]
  cons _ _ := by simp [Rows.uptoBulkAll]
  one d := by
    cases d with
    | lit l => cases l <;> simp [Rows.uptoBulk]
    | _ => simp [Rows.uptoBulk]
  str _ := by simp [Rows.uptoBulk]
mutual
def vW : Val → Nat
  | .mk _ _ _ is ks => vsW is + ks.length + 1
def vsW : List Val → Nat
  | [] => 0
  | v :: vs => vW v + vsW vs
end
theorem vsW_sum : ∀ vs : List Val, vsW vs = (vs.map vW).sum
  | [] => rfl
  | v :: vs => by rw [vsW, vsW_sum vs]; rfl
theorem vW_pos (v : Val) : 1 ≤ vW v := by cases v; simp [vW]
theorem vsW_len : ∀ vs : List Val, vs.length ≤ vsW vs
  | [] => by simp
  | v :: vs => by
    have := vsW_len vs
    have := vW_pos v
    simp only [List.length_cons, vsW]
    omega
mutual
theorem okv_of : ∀ v : Val, vW v ≤ 1048576 → v.okv
  | .mk _ _ _ is ks, h => by
    simp only [vW] at h
    have := vsW_len is
    exact ⟨by omega, by omega, okvs_of' is (by omega)⟩
theorem okvs_of' : ∀ vs : List Val, vsW vs ≤ 1048576 → okvs vs
  | [], _ => trivial
  | v :: vs, h => by
    simp only [vsW] at h
    exact ⟨okv_of v (by omega), okvs_of' vs (by omega)⟩
end
def uW (u : Undo) : Nat := vsW u.args + 1
def mW (m : Mark) : Nat := (m.undos.map uW).sum + vW m.thrown + 1
def fW (f : Frame) : Nat := vsW f.slots + vsW f.stack + (f.marks.map mW).sum + 1
def cW (c : Coro) : Nat := (c.frames.map fW).sum + c.waits.length + 1
theorem sum_mem {α : Type} {f : α → Nat} : ∀ {l : List α} {x : α}, x ∈ l → f x ≤ (l.map f).sum
  | y :: l, x, h => by
    rcases List.mem_cons.1 h with rfl | h
    · simp
    · have := sum_mem (f := f) h
      rw [List.map_cons, List.sum_cons]
      omega
theorem sum_le {α : Type} {f g : α → Nat} : ∀ {l : List α}, (∀ x ∈ l, f x ≤ g x) → (l.map f).sum ≤ (l.map g).sum
  | [], _ => by simp
  | y :: l, h => by
    have h1 := h y (by simp)
    have h2 := sum_le (l := l) fun x hx => h x (by simp [hx])
    simp only [List.map_cons, List.sum_cons]
    omega
theorem len_sum {α : Type} {f : α → Nat} (hf : ∀ x, 1 ≤ f x) : ∀ l : List α, l.length ≤ (l.map f).sum
  | [] => by simp
  | y :: l => by
    have h1 := hf y
    have h2 := len_sum hf l
    simp only [List.map_cons, List.sum_cons, List.length_cons]
    omega
theorem uw_le (u : Undo) : uw u ≤ uW u := by have := vsW_len u.args; unfold uw uW; omega
theorem mw_le (m : Mark) : mw m ≤ mW m := by
  have := sum_le (l := m.undos) fun u _ => uw_le u
  have := vW_pos m.thrown
  unfold mw mW
  omega
theorem fw_le (f : Frame) : fw f ≤ fW f := by
  have := sum_le (l := f.marks) fun u _ => mw_le u
  have := vsW_len f.slots
  have := vsW_len f.stack
  unfold fw fW
  omega
theorem cw_le (c : Coro) : cw c ≤ cW c := by
  have := sum_le (l := c.frames) fun u _ => fw_le u
  unfold cw cW
  omega
theorem undo_ok {u : Undo} (h : uW u ≤ 1048576) : u.ok := by
  have := vsW_len u.args
  unfold uW at h
  exact ⟨okvs_of' _ (by omega), by omega⟩
theorem mark_ok {m : Mark} (h : mW m ≤ 1048576) : m.ok := by
  unfold mW at h
  have := len_sum (f := uW) (fun u => by unfold uW; omega) m.undos
  exact ⟨by omega, fun u hu => undo_ok (by have := sum_mem (f := uW) hu; omega), okv_of _ (by omega)⟩
theorem frame_ok {f : Frame} (h : fW f ≤ 1048576) : f.ok := by
  unfold fW at h
  have := len_sum (f := mW) (fun u => by unfold mW; omega) f.marks
  have := vsW_len f.slots
  have := vsW_len f.stack
  exact ⟨by omega, fun u hu => mark_ok (by have := sum_mem (f := mW) hu; omega), okvs_of' _ (by omega), by omega, okvs_of' _ (by omega), by omega⟩
theorem coro_ok {c : Coro} (h : cW c ≤ 1048576) : c.ok ∧ cw c * 80 ≤ 140737488355328 := by
  have := cw_le c
  unfold cW at h this
  have := len_sum (f := fW) (fun u => by unfold fW; omega) c.frames
  exact ⟨⟨by omega, by omega, fun u hu => frame_ok (by have := sum_mem (f := fW) hu; omega)⟩, by omega⟩

theorem tell_valB : ∀ (n : Nat) (cs : List Value) (x : DataW H × List MemPlace), DataW.trod enc Try.prog w 0 (fun _ => true) true n 41 cs = some x →
    ∃ v : Val, Tell w (cellsOf (v.av false)) cs ∧ (cellsOf (v.av false)).length = Try.prog.cellsOf 41 ∧ vW v ≤ Rows.uptoBulk x.1 := by
  intro n
  induction n using Nat.strongRecOn with
  | _ n ih =>
    intro cs x h
    obtain ⟨css, ds, m, rfl, hx, rfl, he⟩ := tell_fields Try.underlying41 (by kernel_rfl) h
    obtain ⟨c0, css, d0, ds, rfl, rfl, ⟨p0, h0⟩, he⟩ := each_cons he
    obtain ⟨c1, css, d1, ds, rfl, rfl, ⟨p1, h1⟩, he⟩ := each_cons he
    obtain ⟨c2, css, d2, ds, rfl, rfl, ⟨p2, h2⟩, he⟩ := each_cons he
    obtain ⟨c3, css, d3, ds, rfl, rfl, ⟨p3, h3⟩, he⟩ := each_cons he
    obtain ⟨c4, css, d4, ds, rfl, rfl, ⟨p4, h4⟩, he⟩ := each_cons he
    obtain ⟨rfl, rfl⟩ := each_nil he
    obtain ⟨i0, t0, e0, _⟩ := tell_int Try.underlying3 h0
    obtain ⟨i1, t1, e1, _⟩ := tell_int Try.underlying3 h1
    obtain ⟨i2, t2, e2, _⟩ := tell_str Try.underlying9 h2
    obtain ⟨i3, t3, _, e3⟩ := tell_slice Try.underlying38 (by decide +kernel) (Val.av false) (fun v d => vW v ≤ Rows.uptoBulk d) h3 (fun m' hm cs x hx => ih m' (by omega) cs x hx)
    have b3 := slOf_bulk bulkOf e3
    dsimp only at b3
    obtain ⟨i4, t4, _, e4⟩ := tell_slice Try.underlying39 (by decide +kernel) AV.str (fun v d => (fun _ => 1) v ≤ Rows.uptoBulk d) h4 (fun m' hm cs x hx => by
        obtain ⟨s, a, e, _⟩ := tell_str Try.underlying9 hx
        exact ⟨s, a, by kernel_rfl, by rw [e]; exact bulkOf.one _⟩)
    have b4 := slOf_bulk bulkOf e4
    dsimp only at b4
    refine ⟨⟨i0, i1, i2, i3, i4⟩, ?_, by simp; kernel_rfl, ?_⟩
    · have := t0.app (t1.app (t2.app (t3.app t4)))
      simpa [Val.av, avs_map] using this
    · rw [hx, bulkOf.agg]
      simp only [bulkOf.cons, bulkOf.nil, vW, vsW_sum]
      simp only [List.map_const', List.sum_replicate_nat, Nat.mul_one] at b4
      have := bulkOf.one d0
      have := bulkOf.one d1
      omega

theorem tell_undo (h : DataW.trod enc Try.prog w 0 (fun _ => true) true n 62 cs = some x) : ∃ u : Undo, Tell w (cellsOf (u.av false)) cs ∧ (cellsOf (u.av false)).length = Try.prog.cellsOf 62 ∧ uW u ≤ Rows.uptoBulk x.1 := by
  obtain ⟨css, ds, m, rfl, hx, rfl, he⟩ := tell_fields Try.underlying62 (by kernel_rfl) h
  obtain ⟨c0, css, d0, ds, rfl, rfl, ⟨p0, h0⟩, he⟩ := each_cons he
  obtain ⟨c1, css, d1, ds, rfl, rfl, ⟨p1, h1⟩, he⟩ := each_cons he
  obtain ⟨rfl, rfl⟩ := each_nil he
  obtain ⟨i0, t0, e0, _⟩ := tell_int Try.underlying3 h0
  obtain ⟨i1, t1, _, e1⟩ := tell_slice Try.underlying38 (by decide +kernel) (Val.av false) (fun v d => vW v ≤ Rows.uptoBulk d) h1 (fun m' hm cs x hx => tell_valB m' cs x hx)
  have b1 := slOf_bulk bulkOf e1
  dsimp only at b1
  refine ⟨⟨i0, i1⟩, ?_, by simp; kernel_rfl, ?_⟩
  · have := t0.app t1
    simpa [Undo.av, avs_map] using this
  · rw [hx, bulkOf.agg]
    simp only [bulkOf.cons, bulkOf.nil, uW, vsW_sum]
    omega

theorem tell_mark (h : DataW.trod enc Try.prog w 0 (fun _ => true) true n 60 cs = some x) : ∃ u : Mark, Tell w (cellsOf (u.av false)) cs ∧ (cellsOf (u.av false)).length = Try.prog.cellsOf 60 ∧ mW u ≤ Rows.uptoBulk x.1 := by
  obtain ⟨css, ds, m, rfl, hx, rfl, he⟩ := tell_fields Try.underlying60 (by kernel_rfl) h
  obtain ⟨c0, css, d0, ds, rfl, rfl, ⟨p0, h0⟩, he⟩ := each_cons he
  obtain ⟨c1, css, d1, ds, rfl, rfl, ⟨p1, h1⟩, he⟩ := each_cons he
  obtain ⟨c2, css, d2, ds, rfl, rfl, ⟨p2, h2⟩, he⟩ := each_cons he
  obtain ⟨c3, css, d3, ds, rfl, rfl, ⟨p3, h3⟩, he⟩ := each_cons he
  obtain ⟨c4, css, d4, ds, rfl, rfl, ⟨p4, h4⟩, he⟩ := each_cons he
  obtain ⟨c5, css, d5, ds, rfl, rfl, ⟨p5, h5⟩, he⟩ := each_cons he
  obtain ⟨rfl, rfl⟩ := each_nil he
  obtain ⟨i0, t0, e0, _⟩ := tell_int Try.underlying3 h0
  obtain ⟨i1, t1, e1, _⟩ := tell_int Try.underlying3 h1
  obtain ⟨i2, t2, e2, _⟩ := tell_int Try.underlying3 h2
  obtain ⟨i3, t3, e3, _⟩ := tell_int Try.underlying3 h3
  obtain ⟨i4, t4, _, e4⟩ := tell_slice Try.underlying58 (by decide +kernel) (Undo.av false) (fun v d => uW v ≤ Rows.uptoBulk d) h4 (fun m' hm cs x hx => tell_undo hx)
  have b4 := slOf_bulk bulkOf e4
  dsimp only at b4
  obtain ⟨i5, t5, _, b5⟩ := tell_valB _ _ _ h5
  dsimp only at b5
  refine ⟨⟨i0, i1, i2, i3, i4, i5⟩, ?_, by simp; kernel_rfl, ?_⟩
  · have := t0.app (t1.app (t2.app (t3.app (t4.app t5))))
    simpa [Mark.av, Val.cells] using this
  · rw [hx, bulkOf.agg]
    simp only [bulkOf.cons, bulkOf.nil, mW]
    omega

theorem tell_frame (h : DataW.trod enc Try.prog w 0 (fun _ => true) true n 57 cs = some x) : ∃ u : Frame, Tell w (cellsOf (u.av false)) cs ∧ (cellsOf (u.av false)).length = Try.prog.cellsOf 57 ∧ fW u ≤ Rows.uptoBulk x.1 := by
  obtain ⟨css, ds, m, rfl, hx, rfl, he⟩ := tell_fields Try.underlying57 (by kernel_rfl) h
  obtain ⟨c0, css, d0, ds, rfl, rfl, ⟨p0, h0⟩, he⟩ := each_cons he
  obtain ⟨c1, css, d1, ds, rfl, rfl, ⟨p1, h1⟩, he⟩ := each_cons he
  obtain ⟨c2, css, d2, ds, rfl, rfl, ⟨p2, h2⟩, he⟩ := each_cons he
  obtain ⟨c3, css, d3, ds, rfl, rfl, ⟨p3, h3⟩, he⟩ := each_cons he
  obtain ⟨c4, css, d4, ds, rfl, rfl, ⟨p4, h4⟩, he⟩ := each_cons he
  obtain ⟨rfl, rfl⟩ := each_nil he
  obtain ⟨i0, t0, e0, _⟩ := tell_int Try.underlying3 h0
  obtain ⟨i1, t1, e1, _⟩ := tell_int Try.underlying3 h1
  obtain ⟨i2, t2, _, e2⟩ := tell_slice Try.underlying38 (by decide +kernel) (Val.av false) (fun v d => vW v ≤ Rows.uptoBulk d) h2 (fun m' hm cs x hx => tell_valB m' cs x hx)
  have b2 := slOf_bulk bulkOf e2
  dsimp only at b2
  obtain ⟨i3, t3, _, e3⟩ := tell_slice Try.underlying38 (by decide +kernel) (Val.av false) (fun v d => vW v ≤ Rows.uptoBulk d) h3 (fun m' hm cs x hx => tell_valB m' cs x hx)
  have b3 := slOf_bulk bulkOf e3
  dsimp only at b3
  obtain ⟨i4, t4, _, e4⟩ := tell_slice Try.underlying55 (by decide +kernel) (Mark.av false) (fun v d => mW v ≤ Rows.uptoBulk d) h4 (fun m' hm cs x hx => tell_mark hx)
  have b4 := slOf_bulk bulkOf e4
  dsimp only at b4
  refine ⟨⟨i0, i1, i2, i3, i4⟩, ?_, by simp; kernel_rfl, ?_⟩
  · have := t0.app (t1.app (t2.app (t3.app t4)))
    simpa [Frame.av, avs_map] using this
  · rw [hx, bulkOf.agg]
    simp only [bulkOf.cons, bulkOf.nil, fW, vsW_sum]
    omega

@[simp] theorem coro_len (o : Bool) (c : Coro) : (cellsOf (c.av o)).length = 6 := by simp [Coro.av]
theorem tell_coro (h : DataW.trod enc Try.prog w 0 (fun _ => true) true n 35 cs = some x) : ∃ u : Coro, Tell w (cellsOf (u.av false)) cs ∧ (cellsOf (u.av false)).length = Try.prog.cellsOf 35 ∧ cW u ≤ Rows.uptoBulk x.1 := by
  obtain ⟨css, ds, m, rfl, hx, rfl, he⟩ := tell_fields Try.underlying35 (by kernel_rfl) h
  obtain ⟨c0, css, d0, ds, rfl, rfl, ⟨p0, h0⟩, he⟩ := each_cons he
  obtain ⟨c1, css, d1, ds, rfl, rfl, ⟨p1, h1⟩, he⟩ := each_cons he
  obtain ⟨c2, css, d2, ds, rfl, rfl, ⟨p2, h2⟩, he⟩ := each_cons he
  obtain ⟨c3, css, d3, ds, rfl, rfl, ⟨p3, h3⟩, he⟩ := each_cons he
  obtain ⟨c4, css, d4, ds, rfl, rfl, ⟨p4, h4⟩, he⟩ := each_cons he
  obtain ⟨c5, css, d5, ds, rfl, rfl, ⟨p5, h5⟩, he⟩ := each_cons he
  obtain ⟨rfl, rfl⟩ := each_nil he
  obtain ⟨i0, t0, e0, _⟩ := tell_int Try.underlying3 h0
  obtain ⟨i1, t1, _, e1⟩ := tell_slice Try.underlying33 (by decide +kernel) (Frame.av false) (fun v d => fW v ≤ Rows.uptoBulk d) h1 (fun m' hm cs x hx => tell_frame hx)
  have b1 := slOf_bulk bulkOf e1
  dsimp only at b1
  obtain ⟨i2, t2, e2, _⟩ := tell_int Try.underlying3 h2
  obtain ⟨i3, t3, _, e3⟩ := tell_slice Try.underlying23 (by decide +kernel) (AV.int .i64) (fun v d => (fun _ => 1) v ≤ Rows.uptoBulk d) h3 (fun m' hm cs x hx => by
      obtain ⟨s, a, e, _⟩ := tell_int Try.underlying3 hx
      exact ⟨s, a, by kernel_rfl, by rw [e]; exact bulkOf.one _⟩)
  have b3 := slOf_bulk bulkOf e3
  dsimp only at b3
  obtain ⟨i4, t4, e4⟩ := tell_bool Try.underlying4 h4
  obtain ⟨i5, t5, e5, _⟩ := tell_str Try.underlying9 h5
  refine ⟨⟨i0, i1, i2, i3, i4, i5⟩, ?_, by simp; kernel_rfl, ?_⟩
  · have := t0.app (t1.app (t2.app (t3.app (t4.app t5))))
    simpa [Coro.av] using this
  · rw [hx, bulkOf.agg]
    simp only [bulkOf.cons, bulkOf.nil, cW]
    simp only [List.map_const', List.sum_replicate_nat, Nat.mul_one] at b3
    omega

theorem tell_coros {v : Value} {d : DataW H} {p : List MemPlace} (h : DataW.Trod enc Try.prog w 0 (fun _ => true) true 28 v d p) (hb : Rows.uptoBulk d ≤ 1048576) :
    ∃ ks : List Coro, Tell w [.sl .fro (ks.map (Coro.av false))] v.cells.toList ∧ ks.length * 88 ≤ 140737488355328 ∧ ∀ c ∈ ks, c.ok ∧ cw c * 80 ≤ 140737488355328 := by
  obtain ⟨n, h⟩ := h
  obtain ⟨ks, a, _, e⟩ := tell_slice Try.underlying28 (by decide +kernel) (Coro.av false) (fun c d => cW c ≤ Rows.uptoBulk d) h (fun m _ cs x hx => tell_coro hx)
  have hs := slOf_bulk bulkOf e
  have hl := len_sum (f := cW) (fun u => by unfold cW; omega) ks
  dsimp only at hs
  exact ⟨ks, a, by omega, fun c hc => coro_ok (by have := sum_mem (f := cW) hc; omega)⟩
end
end Go.Proofs.Ytnjdjahcepakgaa
