/- Contracts of chapter 17's functions: the law that waking grows. -/
import Derived.Test.YtnjdjahcepakgaaS4
import Derived.Test.YtnjdjahcepakgaaA2

set_option linter.unusedSimpArgs false
set_option linter.unusedVariables false
set_option maxHeartbeats 4000000
namespace Go.Proofs.Ytnjdjahcepakgaa
open Go Go.Amb Go.IntWalk

theorem readyR_any (xs : List Int) (p : Int → Bool) : (readyR xs p).2 = xs.any p := by
  unfold readyR
  cases h : xs.findIdx? p with
  | none =>
    rw [List.findIdx?_eq_none_iff] at h
    simp only
    symm
    rw [List.any_eq_false]
    intro x hx
    simp [h x hx]
  | some k =>
    rw [List.findIdx?_eq_some_iff_getElem] at h
    obtain ⟨hk, h1, _⟩ := h
    simp only
    symm
    rw [List.any_eq_true]
    exact ⟨_, List.getElem_mem hk, h1⟩
theorem wk_wk (fs : List Fut) (c : Coro) : wk fs (wk fs c) = wk fs c := by
  unfold wk
  by_cases h : ((readyR c.waits (doneAt fs)).2 && c.state == 2) = true
  · rw [if_pos h]; simp
  · rw [if_neg h, if_neg h]
def waits (fs : List Fut) (ks : List Coro) (i : Nat) : Bool := match ks[i]? with | some c => c.state == 2 && !(readyR c.waits (doneAt fs)).2 | none => false
theorem upTo_congr {p q : Nat → Bool} : ∀ n, (∀ i, i < n → p i = q i) → upTo p n = upTo q n
  | 0, _ => rfl
  | n + 1, h => by
    unfold upTo
    rw [h n (by omega), upTo_congr n fun i hi => h i (by omega)]
theorem blk_wk (fs : List Fut) (ks : List Coro) (i : Nat) : blk (ks.map (wk fs)) i = waits fs ks i := by
  unfold blk waits
  rw [List.getElem?_map]
  cases ks[i]? with
  | none => rfl
  | some c =>
    simp only [Option.map_some, wk]
    cases h1 : (readyR c.waits (doneAt fs)).2 <;> by_cases h2 : c.state = 2 <;> simp [h2]
/-- The futures, once id is completed. -/
def done1 (fs : List Fut) (id : Int) : List Fut := if 0 ≤ id then (match fs[id.toNat]? with | some f => fs.set id.toNat { f with st := 1 } | none => fs) else fs
theorem clC_shr {v : AV} (h : v.one = true) : (clC v).shr = true := by
  cases v with
  | sl k xs => cases k <;> rfl
  | _ => first | rfl | simp [AV.one] at h
def Fut.cl (f : Fut) : Fut := ⟨f.st, f.rest.map clC, by simp [f.hl], by
  intro c hc
  obtain ⟨x, hx, rfl⟩ := List.mem_map.1 hc
  refine clC_shr ?_
  have := f.h1 x hx
  cases x <;> first | rfl | exact this⟩
theorem clC_futA (f : Fut) : clC f.av = f.cl.av := by simp [Fut.av, Fut.cl]
@[simp] theorem fut_len (f : Fut) : (cellsOf f.av).length = 8 := by simp [Fut.av, f.hl]
@[simp] theorem done1_len (fs : List Fut) (id : Int) : (done1 fs id).length = fs.length := by
  unfold done1
  split
  · split <;> simp
  · rfl
theorem doneAt_cl (fs : List Fut) (i : Int) : doneAt (fs.map Fut.cl) i = doneAt fs i := by
  unfold doneAt
  rw [List.getElem?_map]
  cases fs[i.toNat]? <;> rfl
theorem doneAt_done1 (fs : List Fut) (id i : Int) (h : doneAt fs i = true) : doneAt (done1 fs id) i = true := by
  unfold done1
  split
  · split
    · rename_i f hf
      have hi : 0 ≤ i := by
        unfold doneAt at h
        simp only [Bool.and_eq_true, decide_eq_true_eq] at h
        exact h.1
      by_cases he : id.toNat = i.toNat
      · have hlt := (List.getElem?_eq_some_iff.1 hf).1
        rw [he] at hlt ⊢
        unfold doneAt
        simp [hi, hlt]
      · unfold doneAt at h ⊢
        rw [List.getElem?_set_ne he]
        exact h
    · exact h
  · exact h
theorem wk_grows (fs gs : List Fut) (c : Coro) (hd : ∀ i, doneAt fs i = true → doneAt gs i = true) (h : (wk fs c).state = 1) : (wk gs c).state = 1 := by
  unfold wk at h ⊢
  by_cases h1 : c.state = 2
  · by_cases h2 : (readyR c.waits (doneAt fs)).2 = true
    · have h3 : (readyR c.waits (doneAt gs)).2 = true := by
        rw [readyR_any, List.any_eq_true] at h2 ⊢
        obtain ⟨x, hx, hp⟩ := h2
        exact ⟨x, hx, hd x hp⟩
      simp [h1, h3]
    · simp [h1, h2] at h
  · have h4 : (c.state == 2) = false := by simp [h1]
    simp only [h4, Bool.and_false] at h ⊢
    simpa using h
theorem wk_ok {fs : List Fut} {c : Coro} (h : c.ok) : (wk fs c).ok := by
  unfold wk
  split <;> exact h

theorem f5 (ks : List Coro) (fs : List Fut) (id : Int) (hl : ks.length * 88 ≤ 140737488355328) (hok : ∀ c ∈ ks, c.ok ∧ cw c * 80 ≤ 140737488355328) : ACall Try.prog 5 [.sl .fro (ks.map (Coro.av false)), futs fs, .int .i64 id] (· = .bool true) := by
  have hok' : ∀ c ∈ ks, c.ok := fun c hc => (hok c hc).1
  have hcl : ∀ gs : List Fut, (ks.map (wkA gs)).map clC = ks.map (Coro.av false ∘ wk gs) := by
    intro gs
    simp only [List.map_map, List.map_inj_left, Function.comp_apply]
    intro c _
    show clC ((wk gs c).av false) = _
    generalize wk gs c = c'
    simp [Coro.av, Function.comp_def, clC_frv]
  have hcl1 := hcl fs
  have hokL : ∀ c ∈ ks.map (wk fs), c.ok := by
    intro c hc
    obtain ⟨c', hc', rfl⟩ := List.mem_map.1 hc
    exact wk_ok (hok' c' hc')
  have h14 := f14 (ks.map (wk fs)) fs (by simpa using hl) hokL
  have e14 : (ks.map (wk fs)).map (wkA fs) = ks.map (wkA fs) := by
    simp only [List.map_map, List.map_inj_left, Function.comp_apply]
    intro c _
    show (wk fs (wk fs c)).av false = (wk fs c).av false
    rw [wk_wk]
  rw [e14, List.map_map] at h14
  have h13 := f13 (ks.map (wk fs)) (by simpa using hl) hokL
  rw [List.map_map] at h13
  have h17 := f17 (ks.map (wk fs)) (by simp; omega)
  rw [List.map_map, List.length_map, upTo_congr ks.length fun i _ => blk_wk fs ks i] at h17
  have hul := upTo_len (waits fs ks) ks.length
  have h16 := f16 (upTo (waits fs ks) ks.length) (by omega)
  refine a5_of (by simp) ?_
  repeat refine AW.seq ?_
  refine AW.reg ?_
  have hF := True.intro
  repeat (first | refine wD1 ?_ | refine wD2 ?_ | refine wE1 ?_ | refine wE2 ?_ | refine wN ?_ | ((with_reducible show evIs _ (_ :: _) _ _); first | refine wQ ?_ | refine wF ?_ | refine wG ?_ | refine wT ?_ | refine wM ?_ | refine wS ?_ | refine wP ?_))
  clear hF
  repeat refine evDone ?_
  try (show AW _ _ _ _ _)
  repeat refine AW.seq ?_
  refine AW.reg ?_
  by_cases h1 : fs.length ≤ 100
  · have h1' : ¬ (100 : Int) < fs.length := by omega
    have hF := h1'
    repeat (first | refine wD1 ?_ | refine wD2 ?_ | refine wE1 ?_ | refine wE2 ?_ | refine wN ?_ | ((with_reducible show evIs _ (_ :: _) _ _); first | refine wQ ?_ | refine wF ?_ | refine wG ?_ | refine wT ?_ | refine wM ?_ | refine wS ?_ | refine wP ?_))
    clear hF
    repeat refine evDone ?_
    try (show AW _ _ _ _ _)
    have hF := True.intro
    refine wB (hA := f12 ks (by omega) hok) ?_
    clear hF
    intro b _
    cases b
    · have hF := True.intro
      repeat (first | refine wD1 ?_ | refine wD2 ?_ | refine wE1 ?_ | refine wE2 ?_ | refine wN ?_ | ((with_reducible show evIs _ (_ :: _) _ _); first | refine wQ ?_ | refine wF ?_ | refine wG ?_ | refine wT ?_ | refine wM ?_ | refine wS ?_ | refine wP ?_))
      clear hF
      repeat refine evDone ?_
      try (show AW _ _ _ _ _)
      repeat refine AW.seq ?_
      refine AW.condT (by simp []) (by simp []) ?_
      repeat refine AW.seq ?_
      refine AW.reg ?_
      have hF := True.intro
      repeat (first | refine wD1 ?_ | refine wD2 ?_ | refine wE1 ?_ | refine wE2 ?_ | refine wN ?_ | ((with_reducible show evIs _ (_ :: _) _ _); first | refine wQ ?_ | refine wF ?_ | refine wG ?_ | refine wT ?_ | refine wM ?_ | refine wS ?_ | refine wP ?_))
      clear hF
      repeat refine evDone ?_
      try (show AW _ _ _ _ _)
      have hF := True.intro
      refine wC (hA := f7) ?_
      clear hF
      have hF := True.intro
      repeat (first | refine wD1 ?_ | refine wD2 ?_ | refine wE1 ?_ | refine wE2 ?_ | refine wN ?_ | ((with_reducible show evIs _ (_ :: _) _ _); first | refine wQ ?_ | refine wF ?_ | refine wG ?_ | refine wT ?_ | refine wM ?_ | refine wS ?_ | refine wP ?_))
      clear hF
      repeat refine evDone ?_
      try (show AW _ _ _ _ _)
      refine AW.ret (retI rfl ?_)
      simp [a5_res, resOk, resP, resV, ARes.op, R2s, R2, R1s, R1, closeOk, closeV]
    · have hF := True.intro
      repeat (first | refine wD1 ?_ | refine wD2 ?_ | refine wE1 ?_ | refine wE2 ?_ | refine wN ?_ | ((with_reducible show evIs _ (_ :: _) _ _); first | refine wQ ?_ | refine wF ?_ | refine wG ?_ | refine wT ?_ | refine wM ?_ | refine wS ?_ | refine wP ?_))
      clear hF
      repeat refine evDone ?_
      try (show AW _ _ _ _ _)
      repeat refine AW.seq ?_
      refine AW.condF (by simp []) (by simp []) ?_
      refine AW.skip ?_
      show AW _ _ _ _ _
      repeat refine AW.seq ?_
      refine AW.reg ?_
      have hF := True.intro
      repeat (first | refine wD1 ?_ | refine wD2 ?_ | refine wE1 ?_ | refine wE2 ?_ | refine wN ?_ | ((with_reducible show evIs _ (_ :: _) _ _); first | refine wQ ?_ | refine wF ?_ | refine wG ?_ | refine wT ?_ | refine wM ?_ | refine wS ?_ | refine wP ?_))
      clear hF
      repeat refine evDone ?_
      try (show AW _ _ _ _ _)
      have hF := hcl1
      refine wC (hA := f14 ks fs hl hok') ?_
      clear hF
      have hF := True.intro
      repeat (first | refine wD1 ?_ | refine wD2 ?_ | refine wE1 ?_ | refine wE2 ?_ | refine wN ?_ | ((with_reducible show evIs _ (_ :: _) _ _); first | refine wQ ?_ | refine wF ?_ | refine wG ?_ | refine wT ?_ | refine wM ?_ | refine wS ?_ | refine wP ?_))
      clear hF
      repeat refine evDone ?_
      try (show AW _ _ _ _ _)
      repeat refine AW.seq ?_
      refine AW.reg ?_
      have hF := True.intro
      repeat (first | refine wD1 ?_ | refine wD2 ?_ | refine wE1 ?_ | refine wE2 ?_ | refine wN ?_ | ((with_reducible show evIs _ (_ :: _) _ _); first | refine wQ ?_ | refine wF ?_ | refine wG ?_ | refine wT ?_ | refine wM ?_ | refine wS ?_ | refine wP ?_))
      clear hF
      repeat refine evDone ?_
      try (show AW _ _ _ _ _)
      have hF := hcl1
      refine wC (hA := h14) ?_
      clear hF
      have hF := True.intro
      repeat (first | refine wD1 ?_ | refine wD2 ?_ | refine wE1 ?_ | refine wE2 ?_ | refine wN ?_ | ((with_reducible show evIs _ (_ :: _) _ _); first | refine wQ ?_ | refine wF ?_ | refine wG ?_ | refine wT ?_ | refine wM ?_ | refine wS ?_ | refine wP ?_))
      clear hF
      repeat refine evDone ?_
      try (show AW _ _ _ _ _)
      have hF := True.intro
      refine wC (hA := h13) ?_
      clear hF
      have hF := True.intro
      repeat (first | refine wD1 ?_ | refine wD2 ?_ | refine wE1 ?_ | refine wE2 ?_ | refine wN ?_ | ((with_reducible show evIs _ (_ :: _) _ _); first | refine wQ ?_ | refine wF ?_ | refine wG ?_ | refine wT ?_ | refine wM ?_ | refine wS ?_ | refine wP ?_))
      clear hF
      repeat refine evDone ?_
      try (show AW _ _ _ _ _)
      repeat refine AW.seq ?_
      refine AW.condF (by simp []) (by simp []) ?_
      refine AW.skip ?_
      show AW _ _ _ _ _
      repeat refine AW.seq ?_
      refine AW.reg ?_
      have hF := True.intro
      repeat (first | refine wD1 ?_ | refine wD2 ?_ | refine wE1 ?_ | refine wE2 ?_ | refine wN ?_ | ((with_reducible show evIs _ (_ :: _) _ _); first | refine wQ ?_ | refine wF ?_ | refine wG ?_ | refine wT ?_ | refine wM ?_ | refine wS ?_ | refine wP ?_))
      clear hF
      repeat refine evDone ?_
      try (show AW _ _ _ _ _)
      repeat refine AW.seq ?_
      refine AW.reg ?_
      have hF := True.intro
      repeat (first | refine wD1 ?_ | refine wD2 ?_ | refine wE1 ?_ | refine wE2 ?_ | refine wN ?_ | ((with_reducible show evIs _ (_ :: _) _ _); first | refine wQ ?_ | refine wF ?_ | refine wG ?_ | refine wT ?_ | refine wM ?_ | refine wS ?_ | refine wP ?_))
      clear hF
      repeat refine evDone ?_
      try (show AW _ _ _ _ _)
      repeat refine AW.seq ?_
      refine AW.block ?_
      refine AW.loop (fun g : Nat × Nat × Nat => g.1 ≤ ks.length ∧ g.2.2 < g.2.1) (fun g => mkS [(0, .sl .fro (ks.map (Coro.av false))), (1, futs fs), (2, .int .i64 id), (7, .sl .fro (ks.map (Coro.av false ∘ wk fs))), (8, .hdr g.2.2 0 (upTo (waits fs ks) g.1).length), (41, .sl .fro (ks.map (Coro.av false))), (42, .int .i64 ks.length), (43, .int .i64 g.1)] [(g.2.2, ⟨1, false, (upTo (waits fs ks) g.1).map (AV.int .i64)⟩)] g.2.1) (fun g => ks.length - g.1) (0, 1, 0) ⟨by simp, by simp⟩ ?_ ?_
      · refine Fit.mk _ _ _ (by simp [futs, upTo, conv2, newEmp, convs_refl, convs, conv]) (by simp [futs, upTo, heapFit, newEmp, conv2s, conv2, convs_refl, convs, conv]) (by intro q hq; first | (simp at hq; done) | (simp at hq; omega) | (simp at hq; simp; omega))
      · rintro ⟨i, n, r⟩ ⟨hi, hr⟩
        dsimp only at hi hr ⊢
        have hne : ∀ k, (r = n + k) = False := fun k => eq_false (by omega)
        have hne' : ∀ k, (n + k = r) = False := fun k => eq_false (by omega)
        have hnl : ∀ k, (n + k < n) = False := fun k => eq_false (by omega)
        have hrn : ∀ k, r < n + k := fun k => by omega
        have huli := upTo_len (waits fs ks) i
        repeat refine AW.seq ?_
        refine AW.reg ?_
        by_cases hlt : i < ks.length
        · obtain ⟨c, hc⟩ : ∃ c, ks[i]? = some c := ⟨_, List.getElem?_eq_getElem hlt⟩
          have hcm : c ∈ ks := List.mem_of_getElem? hc
          have he := elem_map (f := Coro.av false) hc
          simp only [Coro.av, ko_false] at he
          have hwl : c.waits.length ≤ 9223372036854775807 := by have := (hok' c hcm).2.1; omega
          have hw : IntKind.i64.wrap ((i : Int) + 1) = (i : Int) + 1 := i64_in _ ⟨by omega, by omega⟩
          have hby : ((upTo (waits fs ks) i).length + 1) * 8 ≤ 140737488355328 := by omega
          have hby2 : (upTo (waits fs ks) i).length + 1 ≤ 9223372036854775807 := by omega
          have hwt : waits fs ks i = (c.state == 2 && !(readyR c.waits (doneAt fs)).2) := by simp [waits, hc]
          have hF := hlt
          repeat (first | refine wD1 ?_ | refine wD2 ?_ | refine wE1 ?_ | refine wE2 ?_ | refine wN ?_ | ((with_reducible show evIs _ (_ :: _) _ _); first | refine wQ ?_ | refine wF ?_ | refine wG ?_ | refine wT ?_ | refine wM ?_ | refine wS ?_ | refine wP ?_))
          clear hF
          repeat refine evDone ?_
          try (show AW _ _ _ _ _)
          repeat refine AW.seq ?_
          refine AW.condT (by simp []) (by simp []) ?_
          refine AW.skip ?_
          show AW _ _ _ _ _
          refine AW.seq (AW.block ?_)
          repeat refine AW.seq ?_
          refine AW.reg ?_
          have hF := And.intro (hlt) (And.intro (he) (And.intro (hne) (And.intro (hne') (hnl))))
          repeat (first | refine wD1 ?_ | refine wD2 ?_ | refine wE1 ?_ | refine wE2 ?_ | refine wN ?_ | ((with_reducible show evIs _ (_ :: _) _ _); first | refine wQ ?_ | refine wF ?_ | refine wG ?_ | refine wT ?_ | refine wM ?_ | refine wS ?_ | refine wP ?_))
          clear hF
          repeat refine evDone ?_
          try (show AW _ _ _ _ _)
          repeat refine AW.seq ?_
          refine AW.reg ?_
          have hF := And.intro (hlt) (And.intro (he) (And.intro (hne) (And.intro (hne') (hnl))))
          repeat (first | refine wD1 ?_ | refine wD2 ?_ | refine wE1 ?_ | refine wE2 ?_ | refine wN ?_ | ((with_reducible show evIs _ (_ :: _) _ _); first | refine wQ ?_ | refine wF ?_ | refine wG ?_ | refine wT ?_ | refine wM ?_ | refine wS ?_ | refine wP ?_))
          clear hF
          repeat refine evDone ?_
          try (show AW _ _ _ _ _)
          have hF := True.intro
          refine wC (hA := f8 fs c.waits hwl) ?_
          clear hF
          have hF := And.intro (hne) (And.intro (hne') (hnl))
          repeat (first | refine wD1 ?_ | refine wD2 ?_ | refine wE1 ?_ | refine wE2 ?_ | refine wN ?_ | ((with_reducible show evIs _ (_ :: _) _ _); first | refine wQ ?_ | refine wF ?_ | refine wG ?_ | refine wT ?_ | refine wM ?_ | refine wS ?_ | refine wP ?_))
          clear hF
          repeat refine evDone ?_
          try (show AW _ _ _ _ _)
          repeat refine AW.seq ?_
          refine AW.reg ?_
          by_cases hs : c.state = 2
          · cases hb : (readyR c.waits (doneAt fs)).2
            · have hp : waits fs ks i = true := by rw [hwt, hb]; simp [hs]
              have hF := And.intro (hne) (And.intro (hne') (And.intro (hnl) (And.intro (hs) (hb))))
              repeat (first | refine wD1 ?_ | refine wD2 ?_ | refine wE1 ?_ | refine wE2 ?_ | refine wN ?_ | ((with_reducible show evIs _ (_ :: _) _ _); first | refine wQ ?_ | refine wF ?_ | refine wG ?_ | refine wT ?_ | refine wM ?_ | refine wS ?_ | refine wP ?_))
              clear hF
              repeat refine evDone ?_
              try (show AW _ _ _ _ _)
              repeat refine AW.seq ?_
              refine AW.condT (by simp []) (by simp []) ?_
              repeat refine AW.seq ?_
              refine AW.reg ?_
              have hF := And.intro (hne) (And.intro (hne') (And.intro (hnl) (And.intro (hby) (hby2))))
              repeat (first | refine wD1 ?_ | refine wD2 ?_ | refine wE1 ?_ | refine wE2 ?_ | refine wN ?_ | ((with_reducible show evIs _ (_ :: _) _ _); first | refine wQ ?_ | refine wF ?_ | refine wG ?_ | refine wT ?_ | refine wM ?_ | refine wS ?_ | refine wP ?_))
              clear hF
              repeat refine evDone ?_
              try (show AW _ _ _ _ _)
              refine AW.reg ?_
              have hF := hw
              repeat (first | refine wD1 ?_ | refine wD2 ?_ | refine wE1 ?_ | refine wE2 ?_ | refine wN ?_ | ((with_reducible show evIs _ (_ :: _) _ _); first | refine wQ ?_ | refine wF ?_ | refine wG ?_ | refine wT ?_ | refine wM ?_ | refine wS ?_ | refine wP ?_))
              clear hF
              repeat refine evDone ?_
              try (show AW _ _ _ _ _)
              refine ⟨(i + 1, n + 100, n + 59), ⟨by dsimp only; omega, by dsimp only; omega⟩, by dsimp only; omega, ?_⟩
              refine Fit.mk _ _ _ (by simp [hw, hne, hne', hrn, upTo, hp, futs, conv2, newEmp, convs_refl, convs, conv]) (by simp [hw, hne, hne', hrn, upTo, hp, futs, heapFit, newEmp, conv2s, conv2, convs_refl, convs, conv]) (by intro q hq; first | (simp at hq; done) | (simp at hq; omega) | (simp at hq; simp; omega))
            · have hp : waits fs ks i = false := by rw [hwt, hb]; simp
              have hF := And.intro (hne) (And.intro (hne') (And.intro (hnl) (And.intro (hs) (hb))))
              repeat (first | refine wD1 ?_ | refine wD2 ?_ | refine wE1 ?_ | refine wE2 ?_ | refine wN ?_ | ((with_reducible show evIs _ (_ :: _) _ _); first | refine wQ ?_ | refine wF ?_ | refine wG ?_ | refine wT ?_ | refine wM ?_ | refine wS ?_ | refine wP ?_))
              clear hF
              repeat refine evDone ?_
              try (show AW _ _ _ _ _)
              repeat refine AW.seq ?_
              refine AW.condF (by simp []) (by simp []) ?_
              refine AW.skip ?_
              show AW _ _ _ _ _
              refine AW.reg ?_
              have hF := hw
              repeat (first | refine wD1 ?_ | refine wD2 ?_ | refine wE1 ?_ | refine wE2 ?_ | refine wN ?_ | ((with_reducible show evIs _ (_ :: _) _ _); first | refine wQ ?_ | refine wF ?_ | refine wG ?_ | refine wT ?_ | refine wM ?_ | refine wS ?_ | refine wP ?_))
              clear hF
              repeat refine evDone ?_
              try (show AW _ _ _ _ _)
              refine ⟨(i + 1, n + 100, r), ⟨by dsimp only; omega, by dsimp only; omega⟩, by dsimp only; omega, ?_⟩
              refine Fit.mk _ _ _ (by simp [hw, hne, hne', hrn, upTo, hp, futs, conv2, newEmp, convs_refl, convs, conv]) (by simp [hw, hne, hne', hrn, upTo, hp, futs, heapFit, newEmp, conv2s, conv2, convs_refl, convs, conv]) (by intro q hq; first | (simp at hq; done) | (simp at hq; omega) | (simp at hq; simp; omega))
          · have hp : waits fs ks i = false := by rw [hwt]; simp [hs]
            have hF := And.intro (hne) (And.intro (hne') (And.intro (hnl) (hs)))
            repeat (first | refine wD1 ?_ | refine wD2 ?_ | refine wE1 ?_ | refine wE2 ?_ | refine wN ?_ | ((with_reducible show evIs _ (_ :: _) _ _); first | refine wQ ?_ | refine wF ?_ | refine wG ?_ | refine wT ?_ | refine wM ?_ | refine wS ?_ | refine wP ?_))
            clear hF
            repeat refine evDone ?_
            try (show AW _ _ _ _ _)
            repeat refine AW.seq ?_
            refine AW.condF (by simp [hs]) (by simp [hs]) ?_
            refine AW.skip ?_
            show AW _ _ _ _ _
            refine AW.reg ?_
            have hF := hw
            repeat (first | refine wD1 ?_ | refine wD2 ?_ | refine wE1 ?_ | refine wE2 ?_ | refine wN ?_ | ((with_reducible show evIs _ (_ :: _) _ _); first | refine wQ ?_ | refine wF ?_ | refine wG ?_ | refine wT ?_ | refine wM ?_ | refine wS ?_ | refine wP ?_))
            clear hF
            repeat refine evDone ?_
            try (show AW _ _ _ _ _)
            refine ⟨(i + 1, n + 100, r), ⟨by dsimp only; omega, by dsimp only; omega⟩, by dsimp only; omega, ?_⟩
            refine Fit.mk _ _ _ (by simp [hw, hne, hne', hrn, upTo, hp, futs, conv2, newEmp, convs_refl, convs, conv]) (by simp [hw, hne, hne', hrn, upTo, hp, futs, heapFit, newEmp, conv2s, conv2, convs_refl, convs, conv]) (by intro q hq; first | (simp at hq; done) | (simp at hq; omega) | (simp at hq; simp; omega))
        · have hlt2 : ¬ (i : Int) < ks.length := by omega
          have hii : i = ks.length := by omega
          subst hii
          have hF := And.intro (hlt) (hlt2)
          repeat (first | refine wD1 ?_ | refine wD2 ?_ | refine wE1 ?_ | refine wE2 ?_ | refine wN ?_ | ((with_reducible show evIs _ (_ :: _) _ _); first | refine wQ ?_ | refine wF ?_ | refine wG ?_ | refine wT ?_ | refine wM ?_ | refine wS ?_ | refine wP ?_))
          clear hF
          repeat refine evDone ?_
          try (show AW _ _ _ _ _)
          repeat refine AW.seq ?_
          refine AW.condF (by simp []) (by simp []) ?_
          have ht : ((upTo (waits fs ks) ks.length).map (AV.int .i64)).take (upTo (waits fs ks) ks.length).length = (upTo (waits fs ks) ks.length).map (AV.int .i64) := List.take_of_length_le (by simp)
          refine AW.exit ?_
          show AW _ _ _ _ _
          repeat refine AW.seq ?_
          refine AW.reg ?_
          have hF := True.intro
          repeat (first | refine wD1 ?_ | refine wD2 ?_ | refine wE1 ?_ | refine wE2 ?_ | refine wN ?_ | ((with_reducible show evIs _ (_ :: _) _ _); first | refine wQ ?_ | refine wF ?_ | refine wG ?_ | refine wT ?_ | refine wM ?_ | refine wS ?_ | refine wP ?_))
          clear hF
          repeat refine evDone ?_
          try (show AW _ _ _ _ _)
          have hF := True.intro
          refine wC (hA := h17) ?_
          clear hF
          have hF := True.intro
          repeat (first | refine wD1 ?_ | refine wD2 ?_ | refine wE1 ?_ | refine wE2 ?_ | refine wN ?_ | ((with_reducible show evIs _ (_ :: _) _ _); first | refine wQ ?_ | refine wF ?_ | refine wG ?_ | refine wT ?_ | refine wM ?_ | refine wS ?_ | refine wP ?_))
          clear hF
          repeat refine evDone ?_
          try (show AW _ _ _ _ _)
          have hF := ht
          refine wC (hA := h16) ?_
          clear hF
          have hF := True.intro
          repeat (first | refine wD1 ?_ | refine wD2 ?_ | refine wE1 ?_ | refine wE2 ?_ | refine wN ?_ | ((with_reducible show evIs _ (_ :: _) _ _); first | refine wQ ?_ | refine wF ?_ | refine wG ?_ | refine wT ?_ | refine wM ?_ | refine wS ?_ | refine wP ?_))
          clear hF
          repeat refine evDone ?_
          try (show AW _ _ _ _ _)
          repeat refine AW.seq ?_
          refine AW.condF (by simp []) (by simp []) ?_
          refine AW.skip ?_
          show AW _ _ _ _ _
          repeat refine AW.seq ?_
          refine AW.reg ?_
          have hF := True.intro
          repeat (first | refine wD1 ?_ | refine wD2 ?_ | refine wE1 ?_ | refine wE2 ?_ | refine wN ?_ | ((with_reducible show evIs _ (_ :: _) _ _); first | refine wQ ?_ | refine wF ?_ | refine wG ?_ | refine wT ?_ | refine wM ?_ | refine wS ?_ | refine wP ?_))
          clear hF
          repeat refine evDone ?_
          try (show AW _ _ _ _ _)
          have hb1 : fs.length * 104 ≤ 140737488355328 := by omega
          have hb2 : fs.length ≤ 9223372036854775807 := by omega
          repeat refine AW.seq ?_
          refine AW.reg ?_
          have hF := And.intro (hne) (And.intro (hne') (And.intro (hnl) (And.intro (hb1) (And.intro (hb2) (futs.eq_1)))))
          repeat (first | refine wD1 ?_ | refine wD2 ?_ | refine wE1 ?_ | refine wE2 ?_ | refine wN ?_ | ((with_reducible show evIs _ (_ :: _) _ _); first | refine wQ ?_ | refine wF ?_ | refine wG ?_ | refine wT ?_ | refine wM ?_ | refine wS ?_ | refine wP ?_))
          clear hF
          repeat refine evDone ?_
          try (show AW _ _ _ _ _)
          refine AW.cut (st' := mkS [(0, .sl .fro (ks.map (Coro.av false))), (7, .sl .fro (ks.map (Coro.av false ∘ wk fs))), (13, .hdr (n + 72) 0 fs.length)] [(n + 72, ⟨8, false, (done1 fs id).map Fut.av⟩)] (n + 100)) ?_ ?_
          · repeat refine AW.seq ?_
            refine AW.reg ?_
            by_cases hi0 : 0 ≤ id
            · by_cases hi1 : id < fs.length
              · obtain ⟨f, hf, hfe⟩ := elem_fut hi0 hi1
                have hd1 : done1 fs id = fs.set id.toNat { f with st := 1 } := by simp [done1, hi0, hf]
                have hrl := f.hl
                have hset : (fs.map Fut.av).set id.toNat (.agg (.int .i64 1 :: f.rest)) = (fs.set id.toNat { f with st := 1 }).map Fut.av := by
                  rw [List.map_set]; rfl
                have hF := And.intro (hi0) (hi1)
                repeat (first | refine wD1 ?_ | refine wD2 ?_ | refine wE1 ?_ | refine wE2 ?_ | refine wN ?_ | ((with_reducible show evIs _ (_ :: _) _ _); first | refine wQ ?_ | refine wF ?_ | refine wG ?_ | refine wT ?_ | refine wM ?_ | refine wS ?_ | refine wP ?_))
                clear hF
                repeat refine evDone ?_
                try (show AW _ _ _ _ _)
                repeat refine AW.seq ?_
                refine AW.condT (by simp []) (by simp []) ?_
                repeat refine AW.seq ?_
                refine AW.reg ?_
                have hF := And.intro (hi0) (And.intro (hi1) (And.intro (hfe) (And.intro (Fut.av.eq_1) (hrl))))
                repeat (first | refine wD1 ?_ | refine wD2 ?_ | refine wE1 ?_ | refine wE2 ?_ | refine wN ?_ | ((with_reducible show evIs _ (_ :: _) _ _); first | refine wQ ?_ | refine wF ?_ | refine wG ?_ | refine wT ?_ | refine wM ?_ | refine wS ?_ | refine wP ?_))
                clear hF
                repeat refine evDone ?_
                try (show AW _ _ _ _ _)
                refine ⟨rfl, ?_⟩
                refine Fit.mk _ _ _ (by simp [hd1, hset, hi0, hi1, hfe, conv2, newEmp, convs_refl, convs, conv]) (by simp [hd1, hset, hi0, hi1, hfe, heapFit, newEmp, conv2s, conv2, convs_refl, convs, conv]) (by intro q hq; first | (simp at hq; done) | (simp at hq; omega) | (simp at hq; simp; omega))
              · have hd1 : done1 fs id = fs := by simp [done1, no_fut hi1]
                have hF := And.intro (hi0) (hi1)
                repeat (first | refine wD1 ?_ | refine wD2 ?_ | refine wE1 ?_ | refine wE2 ?_ | refine wN ?_ | ((with_reducible show evIs _ (_ :: _) _ _); first | refine wQ ?_ | refine wF ?_ | refine wG ?_ | refine wT ?_ | refine wM ?_ | refine wS ?_ | refine wP ?_))
                clear hF
                repeat refine evDone ?_
                try (show AW _ _ _ _ _)
                repeat refine AW.seq ?_
                refine AW.condF (by simp []) (by simp []) ?_
                refine AW.skip ⟨rfl, ?_⟩
                refine Fit.mk _ _ _ (by simp [hd1, conv2, newEmp, convs_refl, convs, conv]) (by simp [hd1, heapFit, newEmp, conv2s, conv2, convs_refl, convs, conv]) (by intro q hq; first | (simp at hq; done) | (simp at hq; omega) | (simp at hq; simp; omega))
            · have hd1 : done1 fs id = fs := by simp [done1, hi0]
              have hF := hi0
              repeat (first | refine wD1 ?_ | refine wD2 ?_ | refine wE1 ?_ | refine wE2 ?_ | refine wN ?_ | ((with_reducible show evIs _ (_ :: _) _ _); first | refine wQ ?_ | refine wF ?_ | refine wG ?_ | refine wT ?_ | refine wM ?_ | refine wS ?_ | refine wP ?_))
              clear hF
              repeat refine evDone ?_
              try (show AW _ _ _ _ _)
              repeat refine AW.seq ?_
              refine AW.condF (by simp []) (by simp []) ?_
              refine AW.skip ⟨rfl, ?_⟩
              refine Fit.mk _ _ _ (by simp [hd1, conv2, newEmp, convs_refl, convs, conv]) (by simp [hd1, heapFit, newEmp, conv2s, conv2, convs_refl, convs, conv]) (by intro q hq; first | (simp at hq; done) | (simp at hq; omega) | (simp at hq; simp; omega))
          refine AW.fit (Fit.freeze (d := 13) (r := n + 72) (off := 0) (len := fs.length) (b := ⟨8, false, (done1 fs id).map Fut.av⟩) (by simp) (by simp) rfl (by simp)) ?_
          have hgr : ∀ i, doneAt fs i = true → doneAt ((done1 fs id).map Fut.cl) i = true := fun i hi => by rw [doneAt_cl]; exact doneAt_done1 fs id i hi
          have hcl2 := hcl ((done1 fs id).map Fut.cl)
          have h14b := f14 ks ((done1 fs id).map Fut.cl) hl hok'
          have hmc : (done1 fs id).map (clC ∘ Fut.av) = (done1 fs id).map (Fut.av ∘ Fut.cl) := by
            simp only [List.map_inj_left, Function.comp_apply]
            intro f _
            exact clC_futA f
          refine AW.fit (st' := mkS [(0, .sl .fro (ks.map (Coro.av false))), (7, .sl .fro (ks.map (Coro.av false ∘ wk fs))), (13, futs ((done1 fs id).map Fut.cl))] [] (n + 100)) ?_ ?_
          · have hta : ((done1 fs id).map Fut.av).take fs.length = (done1 fs id).map Fut.av := List.take_of_length_le (by simp)
            refine Fit.mk _ _ _ (by simp [hta, hmc, futs, conv2, newEmp, convs_refl, convs, conv]) (by simp [hta, hmc, futs, heapFit, newEmp, conv2s, conv2, convs_refl, convs, conv]) (by intro q hq; first | (simp at hq; done) | (simp at hq; omega) | (simp at hq; simp; omega))
          generalize (done1 fs id).map Fut.cl = gs at hgr hcl2 h14b
          repeat refine AW.seq ?_
          refine AW.reg ?_
          have hF := True.intro
          repeat (first | refine wD1 ?_ | refine wD2 ?_ | refine wE1 ?_ | refine wE2 ?_ | refine wN ?_ | ((with_reducible show evIs _ (_ :: _) _ _); first | refine wQ ?_ | refine wF ?_ | refine wG ?_ | refine wT ?_ | refine wM ?_ | refine wS ?_ | refine wP ?_))
          clear hF
          repeat refine evDone ?_
          try (show AW _ _ _ _ _)
          have hF := hcl2
          refine wC (hA := h14b) ?_
          clear hF
          have hF := True.intro
          repeat (first | refine wD1 ?_ | refine wD2 ?_ | refine wE1 ?_ | refine wE2 ?_ | refine wN ?_ | ((with_reducible show evIs _ (_ :: _) _ _); first | refine wQ ?_ | refine wF ?_ | refine wG ?_ | refine wT ?_ | refine wM ?_ | refine wS ?_ | refine wP ?_))
          clear hF
          repeat refine evDone ?_
          try (show AW _ _ _ _ _)
          repeat refine AW.seq ?_
          refine AW.reg ?_
          have hF := True.intro
          repeat (first | refine wD1 ?_ | refine wD2 ?_ | refine wE1 ?_ | refine wE2 ?_ | refine wN ?_ | ((with_reducible show evIs _ (_ :: _) _ _); first | refine wQ ?_ | refine wF ?_ | refine wG ?_ | refine wT ?_ | refine wM ?_ | refine wS ?_ | refine wP ?_))
          clear hF
          repeat refine evDone ?_
          try (show AW _ _ _ _ _)
          repeat refine AW.seq ?_
          refine AW.block ?_
          refine AW.loop (fun i : Nat => i ≤ ks.length) (fun i => mkS [(7, .sl .fro (ks.map (Coro.av false ∘ wk fs))), (14, .sl .fro (ks.map (Coro.av false ∘ wk gs))), (91, .int .i64 ks.length), (92, .int .i64 i)] [] (n + 200)) (fun i => ks.length - i) 0 (by simp) ?_ ?_
          · refine Fit.mk _ _ _ (by simp [conv2, newEmp, convs_refl, convs, conv]) (by simp [heapFit, newEmp, conv2s, conv2, convs_refl, convs, conv]) (by intro q hq; first | (simp at hq; done) | (simp at hq; omega) | (simp at hq; simp; omega))
          · intro i hi
            repeat refine AW.seq ?_
            refine AW.reg ?_
            by_cases hlt : i < ks.length
            · obtain ⟨c, hc⟩ : ∃ c, ks[i]? = some c := ⟨_, List.getElem?_eq_getElem hlt⟩
              have he1 := elem_map (f := Coro.av false ∘ wk fs) hc
              have he2 := elem_map (f := Coro.av false ∘ wk gs) hc
              have hw : IntKind.i64.wrap ((i : Int) + 1) = (i : Int) + 1 := i64_in _ ⟨by omega, by omega⟩
              have hwg : (wk fs c).state = 1 → (wk gs c).state = 1 := wk_grows fs gs c hgr
              simp only [Function.comp_apply, Coro.av, ko_false] at he1 he2
              generalize wk fs c = a at he1 hwg
              generalize wk gs c = b at he2 hwg
              have hli : ¬ (ks.length : Int) ≤ (i : Int) := by omega
              have hF := hlt
              repeat (first | refine wD1 ?_ | refine wD2 ?_ | refine wE1 ?_ | refine wE2 ?_ | refine wN ?_ | ((with_reducible show evIs _ (_ :: _) _ _); first | refine wQ ?_ | refine wF ?_ | refine wG ?_ | refine wT ?_ | refine wM ?_ | refine wS ?_ | refine wP ?_))
              clear hF
              repeat refine evDone ?_
              try (show AW _ _ _ _ _)
              repeat refine AW.seq ?_
              refine AW.condT (by simp []) (by simp []) ?_
              refine AW.skip ?_
              show AW _ _ _ _ _
              refine AW.seq (AW.block ?_)
              repeat refine AW.seq ?_
              refine AW.reg ?_
              have hF := True.intro
              repeat (first | refine wD1 ?_ | refine wD2 ?_ | refine wE1 ?_ | refine wE2 ?_ | refine wN ?_ | ((with_reducible show evIs _ (_ :: _) _ _); first | refine wQ ?_ | refine wF ?_ | refine wG ?_ | refine wT ?_ | refine wM ?_ | refine wS ?_ | refine wP ?_))
              clear hF
              repeat refine evDone ?_
              try (show AW _ _ _ _ _)
              repeat refine AW.seq ?_
              refine AW.reg ?_
              by_cases hs : a.state = 1
              · have hb := hwg hs
                have hF := And.intro (hlt) (And.intro (hli) (And.intro (he1) (And.intro (he2) (And.intro (hs) (hb)))))
                repeat (first | refine wD1 ?_ | refine wD2 ?_ | refine wE1 ?_ | refine wE2 ?_ | refine wN ?_ | ((with_reducible show evIs _ (_ :: _) _ _); first | refine wQ ?_ | refine wF ?_ | refine wG ?_ | refine wT ?_ | refine wM ?_ | refine wS ?_ | refine wP ?_))
                clear hF
                repeat refine evDone ?_
                try (show AW _ _ _ _ _)
                repeat refine AW.seq ?_
                refine AW.condF (by simp []) (by simp []) ?_
                refine AW.skip ?_
                show AW _ _ _ _ _
                refine AW.reg ?_
                have hF := hw
                repeat (first | refine wD1 ?_ | refine wD2 ?_ | refine wE1 ?_ | refine wE2 ?_ | refine wN ?_ | ((with_reducible show evIs _ (_ :: _) _ _); first | refine wQ ?_ | refine wF ?_ | refine wG ?_ | refine wT ?_ | refine wM ?_ | refine wS ?_ | refine wP ?_))
                clear hF
                repeat refine evDone ?_
                try (show AW _ _ _ _ _)
                refine ⟨i + 1, by omega, by omega, ?_⟩
                refine Fit.mk _ _ _ (by simp [hw, conv2, newEmp, convs_refl, convs, conv]) (by simp [hw, heapFit, newEmp, conv2s, conv2, convs_refl, convs, conv]) (by intro q hq; first | (simp at hq; done) | (simp at hq; omega) | (simp at hq; simp; omega))
              · have hF := And.intro (hlt) (And.intro (hli) (And.intro (he1) (And.intro (he2) (hs))))
                repeat (first | refine wD1 ?_ | refine wD2 ?_ | refine wE1 ?_ | refine wE2 ?_ | refine wN ?_ | ((with_reducible show evIs _ (_ :: _) _ _); first | refine wQ ?_ | refine wF ?_ | refine wG ?_ | refine wT ?_ | refine wM ?_ | refine wS ?_ | refine wP ?_))
                clear hF
                repeat refine evDone ?_
                try (show AW _ _ _ _ _)
                repeat refine AW.seq ?_
                refine AW.condF (by simp [hs]) (by simp [hs]) ?_
                refine AW.skip ?_
                show AW _ _ _ _ _
                refine AW.reg ?_
                have hF := hw
                repeat (first | refine wD1 ?_ | refine wD2 ?_ | refine wE1 ?_ | refine wE2 ?_ | refine wN ?_ | ((with_reducible show evIs _ (_ :: _) _ _); first | refine wQ ?_ | refine wF ?_ | refine wG ?_ | refine wT ?_ | refine wM ?_ | refine wS ?_ | refine wP ?_))
                clear hF
                repeat refine evDone ?_
                try (show AW _ _ _ _ _)
                refine ⟨i + 1, by omega, by omega, ?_⟩
                refine Fit.mk _ _ _ (by simp [hw, conv2, newEmp, convs_refl, convs, conv]) (by simp [hw, heapFit, newEmp, conv2s, conv2, convs_refl, convs, conv]) (by intro q hq; first | (simp at hq; done) | (simp at hq; omega) | (simp at hq; simp; omega))
            · have hlt3 : ¬ (i : Int) < ks.length := by omega
              have hF := And.intro (hlt) (hlt3)
              repeat (first | refine wD1 ?_ | refine wD2 ?_ | refine wE1 ?_ | refine wE2 ?_ | refine wN ?_ | ((with_reducible show evIs _ (_ :: _) _ _); first | refine wQ ?_ | refine wF ?_ | refine wG ?_ | refine wT ?_ | refine wM ?_ | refine wS ?_ | refine wP ?_))
              clear hF
              repeat refine evDone ?_
              try (show AW _ _ _ _ _)
              repeat refine AW.seq ?_
              refine AW.condF (by simp []) (by simp []) ?_
              refine AW.exit ?_
              show AW _ _ _ _ _
              repeat refine AW.seq ?_
              refine AW.reg ?_
              have hF := True.intro
              repeat (first | refine wD1 ?_ | refine wD2 ?_ | refine wE1 ?_ | refine wE2 ?_ | refine wN ?_ | ((with_reducible show evIs _ (_ :: _) _ _); first | refine wQ ?_ | refine wF ?_ | refine wG ?_ | refine wT ?_ | refine wM ?_ | refine wS ?_ | refine wP ?_))
              clear hF
              repeat refine evDone ?_
              try (show AW _ _ _ _ _)
              have hF := True.intro
              refine wC (hA := f7) ?_
              clear hF
              have hF := True.intro
              repeat (first | refine wD1 ?_ | refine wD2 ?_ | refine wE1 ?_ | refine wE2 ?_ | refine wN ?_ | ((with_reducible show evIs _ (_ :: _) _ _); first | refine wQ ?_ | refine wF ?_ | refine wG ?_ | refine wT ?_ | refine wM ?_ | refine wS ?_ | refine wP ?_))
              clear hF
              repeat refine evDone ?_
              try (show AW _ _ _ _ _)
              refine AW.ret (retI rfl ?_)
              simp [a5_res, resOk, resP, resV, ARes.op, R2s, R2, R1s, R1, closeOk, closeV]
  · have h1' : (100 : Int) < fs.length := by omega
    have hF := h1'
    repeat (first | refine wD1 ?_ | refine wD2 ?_ | refine wE1 ?_ | refine wE2 ?_ | refine wN ?_ | ((with_reducible show evIs _ (_ :: _) _ _); first | refine wQ ?_ | refine wF ?_ | refine wG ?_ | refine wT ?_ | refine wM ?_ | refine wS ?_ | refine wP ?_))
    clear hF
    repeat refine evDone ?_
    try (show AW _ _ _ _ _)
    repeat refine AW.seq ?_
    refine AW.condT (by simp []) (by simp []) ?_
    repeat refine AW.seq ?_
    refine AW.reg ?_
    have hF := True.intro
    repeat (first | refine wD1 ?_ | refine wD2 ?_ | refine wE1 ?_ | refine wE2 ?_ | refine wN ?_ | ((with_reducible show evIs _ (_ :: _) _ _); first | refine wQ ?_ | refine wF ?_ | refine wG ?_ | refine wT ?_ | refine wM ?_ | refine wS ?_ | refine wP ?_))
    clear hF
    repeat refine evDone ?_
    try (show AW _ _ _ _ _)
    have hF := True.intro
    refine wC (hA := f7) ?_
    clear hF
    have hF := True.intro
    repeat (first | refine wD1 ?_ | refine wD2 ?_ | refine wE1 ?_ | refine wE2 ?_ | refine wN ?_ | ((with_reducible show evIs _ (_ :: _) _ _); first | refine wQ ?_ | refine wF ?_ | refine wG ?_ | refine wT ?_ | refine wM ?_ | refine wS ?_ | refine wP ?_))
    clear hF
    repeat refine evDone ?_
    try (show AW _ _ _ _ _)
    refine AW.ret (retI rfl ?_)
    simp [a5_res, resOk, resP, resV, ARes.op, R2s, R2, R1s, R1, closeOk, closeV]
end Go.Proofs.Ytnjdjahcepakgaa
