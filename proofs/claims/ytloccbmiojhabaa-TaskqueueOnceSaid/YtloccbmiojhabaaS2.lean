/- Contracts of chapter 40's functions, fifth part: a task is added. -/
import Derived.Test.YtloccbmiojhabaaS1
import Derived.Test.YtloccbmiojhabaaA3

set_option linter.unusedSimpArgs false
set_option linter.unusedVariables false
set_option maxHeartbeats 4000000
namespace Go.Proofs.Ytloccbmiojhabaa
open Go Go.Amb Go.IntWalk

def qv (K : SK) (xs : List Item) (tok : Int) : AV := .agg [.sl K (xs.map Item.av), .int .i64 tok]
def qz : AV := .agg [.sl .fro [], .int .i64 0]
def Task.bad (t : Task) : Bool := decide (t.wf = ⟨#[]⟩) || decide (t.run = ⟨#[]⟩) || decide (t.id < 1)
def sameKey (t : Task) (x : Item) : Bool := decide (x.task.wf = t.wf) && decide (x.task.run = t.run) && decide (x.task.id = t.id)
def newItem (t : Task) : Item := ⟨t, ⟨#[]⟩, 0, 0, 0⟩
def addE (xs : List Item) (t : Task) : Int := if t.bad then 2 else if xs.any (sameKey t) then 0 else if 1000 ≤ xs.length then 18 else 0
def addB (xs : List Item) (t : Task) : Bool := !t.bad && !xs.any (sameKey t) && !decide (1000 ≤ xs.length)
def addQ (K : SK) (xs : List Item) (tok : Int) (t : Task) : AV :=
  if t.bad then qz else if xs.any (sameKey t) then qv K xs tok else if 1000 ≤ xs.length then qz else qv (.own 13) (xs ++ [newItem t]) tok
theorem any_at {xs : List Item} {p : Item → Bool} {i : Nat} {x : Item} (hx : xs[i]? = some x) (hp : p x = true) : xs.any p = true :=
  List.any_eq_true.2 ⟨x, List.mem_of_getElem? hx, hp⟩
theorem any_no {xs : List Item} {p : Item → Bool} (hno : ∀ j, j < xs.length → ∀ x, xs[j]? = some x → p x = false) : xs.any p = false := by
  rw [List.any_eq_false]
  intro x hx
  obtain ⟨j, hj, rfl⟩ := List.getElem_of_mem hx
  simpa using hno j hj _ (List.getElem?_eq_getElem hj)
theorem no_step {xs : List Item} {p : Item → Bool} {i : Nat} {x : Item} (hno : ∀ j, j < i → ∀ x, xs[j]? = some x → p x = false) (hx : xs[i]? = some x) (hp : p x = false) : ∀ j, j < i + 1 → ∀ x, xs[j]? = some x → p x = false := by
  intro j hj y hy
  by_cases hji : j = i
  · subst hji; rw [hx] at hy; injection hy with hy; subst hy; exact hp
  · exact hno j (by omega) y hy
@[simp] theorem clC_items (xs : List Item) : (xs.map Item.av).map clC = xs.map Item.av := by simp [Function.comp_def]

theorem f9 (xs : List Item) (tok : Int) (t : Task) (hlen : xs.length ≤ 1001) :
    ACall Try.prog 9 [.agg [items xs, .int .i64 tok], .agg t.cells] (· = .tup [addQ .fro xs tok t, .bool (addB xs t), .int .i64 (addE xs t)]) := by
  obtain ⟨a1, a2, a3, a4, a5, a6, a7, a8, a9⟩ := t
  have hu : ∀ x ∈ xs.map Item.av, (cellsOf x).length = 13 := by simp
  have hcl := clC_items xs
  simp only [Task.cells]
  have hk0 : 0 ≤ xs.length := by omega
  refine a9_of (by simp) ?_
  repeat refine AW.seq ?_
  refine AW.reg ?_
  have hF := True.intro
  repeat (first | refine wD1 ?_ | refine wD2 ?_ | refine wE1 ?_ | refine wE2 ?_ | (refine wE3 ?_; intro _) | (refine wE4 ?_; intro _) | refine wN ?_ | ((with_reducible show evIs _ (_ :: _) _ _); first | refine wQ ?_ | refine wF ?_ | refine wG ?_ | refine wT ?_ | refine wM ?_ | refine wS ?_ | refine wP ?_ | refine wJ ?_ | refine wX ?_ | refine wY ?_))
  clear hF
  repeat refine evDone ?_
  try (show AW _ _ _ _ _)
  repeat refine AW.seq ?_
  refine AW.reg ?_
  by_cases h1 : a7 = ⟨#[]⟩
  · have hF := h1
    repeat (first | refine wD1 ?_ | refine wD2 ?_ | refine wE1 ?_ | refine wE2 ?_ | (refine wE3 ?_; intro _) | (refine wE4 ?_; intro _) | refine wN ?_ | ((with_reducible show evIs _ (_ :: _) _ _); first | refine wQ ?_ | refine wF ?_ | refine wG ?_ | refine wT ?_ | refine wM ?_ | refine wS ?_ | refine wP ?_ | refine wJ ?_ | refine wX ?_ | refine wY ?_))
    clear hF
    repeat refine evDone ?_
    try (show AW _ _ _ _ _)
    repeat refine AW.seq ?_
    refine AW.condT (by simp []) (by simp []) ?_
    repeat refine AW.seq ?_
    refine AW.reg ?_
    have hF := True.intro
    repeat (first | refine wD1 ?_ | refine wD2 ?_ | refine wE1 ?_ | refine wE2 ?_ | (refine wE3 ?_; intro _) | (refine wE4 ?_; intro _) | refine wN ?_ | ((with_reducible show evIs _ (_ :: _) _ _); first | refine wQ ?_ | refine wF ?_ | refine wG ?_ | refine wT ?_ | refine wM ?_ | refine wS ?_ | refine wP ?_ | refine wJ ?_ | refine wX ?_ | refine wY ?_))
    clear hF
    repeat refine evDone ?_
    try (show AW _ _ _ _ _)
    refine AW.ret (retI rfl ?_)
    simp [addQ, addB, addE, Task.bad, h1, qz, a9_res, resOk, resP, resV, ARes.op, R2s, R2, R1s, R1, closeOk, closeV]
  · by_cases h2 : a8 = ⟨#[]⟩
    · have hF := And.intro (h1) (h2)
      repeat (first | refine wD1 ?_ | refine wD2 ?_ | refine wE1 ?_ | refine wE2 ?_ | (refine wE3 ?_; intro _) | (refine wE4 ?_; intro _) | refine wN ?_ | ((with_reducible show evIs _ (_ :: _) _ _); first | refine wQ ?_ | refine wF ?_ | refine wG ?_ | refine wT ?_ | refine wM ?_ | refine wS ?_ | refine wP ?_ | refine wJ ?_ | refine wX ?_ | refine wY ?_))
      clear hF
      repeat refine evDone ?_
      try (show AW _ _ _ _ _)
      repeat refine AW.seq ?_
      refine AW.condT (by simp []) (by simp []) ?_
      repeat refine AW.seq ?_
      refine AW.reg ?_
      have hF := True.intro
      repeat (first | refine wD1 ?_ | refine wD2 ?_ | refine wE1 ?_ | refine wE2 ?_ | (refine wE3 ?_; intro _) | (refine wE4 ?_; intro _) | refine wN ?_ | ((with_reducible show evIs _ (_ :: _) _ _); first | refine wQ ?_ | refine wF ?_ | refine wG ?_ | refine wT ?_ | refine wM ?_ | refine wS ?_ | refine wP ?_ | refine wJ ?_ | refine wX ?_ | refine wY ?_))
      clear hF
      repeat refine evDone ?_
      try (show AW _ _ _ _ _)
      refine AW.ret (retI rfl ?_)
      simp [addQ, addB, addE, Task.bad, h1, h2, qz, a9_res, resOk, resP, resV, ARes.op, R2s, R2, R1s, R1, closeOk, closeV]
    · by_cases h3 : a1 < 1
      · have hF := And.intro (h1) (And.intro (h2) (h3))
        repeat (first | refine wD1 ?_ | refine wD2 ?_ | refine wE1 ?_ | refine wE2 ?_ | (refine wE3 ?_; intro _) | (refine wE4 ?_; intro _) | refine wN ?_ | ((with_reducible show evIs _ (_ :: _) _ _); first | refine wQ ?_ | refine wF ?_ | refine wG ?_ | refine wT ?_ | refine wM ?_ | refine wS ?_ | refine wP ?_ | refine wJ ?_ | refine wX ?_ | refine wY ?_))
        clear hF
        repeat refine evDone ?_
        try (show AW _ _ _ _ _)
        repeat refine AW.seq ?_
        refine AW.condT (by simp []) (by simp []) ?_
        repeat refine AW.seq ?_
        refine AW.reg ?_
        have hF := True.intro
        repeat (first | refine wD1 ?_ | refine wD2 ?_ | refine wE1 ?_ | refine wE2 ?_ | (refine wE3 ?_; intro _) | (refine wE4 ?_; intro _) | refine wN ?_ | ((with_reducible show evIs _ (_ :: _) _ _); first | refine wQ ?_ | refine wF ?_ | refine wG ?_ | refine wT ?_ | refine wM ?_ | refine wS ?_ | refine wP ?_ | refine wJ ?_ | refine wX ?_ | refine wY ?_))
        clear hF
        repeat refine evDone ?_
        try (show AW _ _ _ _ _)
        refine AW.ret (retI rfl ?_)
        simp [addQ, addB, addE, Task.bad, h1, h2, h3, qz, a9_res, resOk, resP, resV, ARes.op, R2s, R2, R1s, R1, closeOk, closeV]
      · have hF := And.intro (h1) (And.intro (h2) (h3))
        repeat (first | refine wD1 ?_ | refine wD2 ?_ | refine wE1 ?_ | refine wE2 ?_ | (refine wE3 ?_; intro _) | (refine wE4 ?_; intro _) | refine wN ?_ | ((with_reducible show evIs _ (_ :: _) _ _); first | refine wQ ?_ | refine wF ?_ | refine wG ?_ | refine wT ?_ | refine wM ?_ | refine wS ?_ | refine wP ?_ | refine wJ ?_ | refine wX ?_ | refine wY ?_))
        clear hF
        repeat refine evDone ?_
        try (show AW _ _ _ _ _)
        repeat refine AW.seq ?_
        refine AW.condF (by simp []) (by simp []) ?_
        refine AW.skip ?_
        show AW _ _ _ _ _
        repeat refine AW.seq ?_
        refine AW.reg ?_
        have hF := True.intro
        repeat (first | refine wD1 ?_ | refine wD2 ?_ | refine wE1 ?_ | refine wE2 ?_ | (refine wE3 ?_; intro _) | (refine wE4 ?_; intro _) | refine wN ?_ | ((with_reducible show evIs _ (_ :: _) _ _); first | refine wQ ?_ | refine wF ?_ | refine wG ?_ | refine wT ?_ | refine wM ?_ | refine wS ?_ | refine wP ?_ | refine wJ ?_ | refine wX ?_ | refine wY ?_))
        clear hF
        repeat refine evDone ?_
        try (show AW _ _ _ _ _)
        repeat refine AW.seq ?_
        refine AW.block ?_
        refine AW.loop (fun g : Nat × Nat => g.1 ≤ xs.length ∧ 3 ≤ g.2 ∧ (∀ j, j < g.1 → ∀ x, xs[j]? = some x → sameKey ⟨a1, a2, a3, a4, a5, a6, a7, a8, a9⟩ x = false)) (fun g => mkS [(2, .ptr 0 0 0), (3, .ptr 1 0 0), (4, .ptr 2 0 0), (24, items xs), (25, .int .i64 xs.length), (26, .int .i64 g.1)] [(0, ⟨2, true, [.agg [items xs, .int .i64 tok]]⟩), (1, ⟨9, true, [.agg [.int .i64 a1, .int .i64 a2, .int .i64 a3, .int .i64 a4, .int .i64 a5, .int .i64 a6, .str a7, .str a8, .str a9]]⟩), (2, ⟨2, true, [.agg [.sl .ext [], .int .i64 0]]⟩)] g.2) (fun g => xs.length - g.1) (0, 10) ⟨by simp, by simp, fun j hj => absurd hj (by simp)⟩ ?_ ?_
        · refine Fit.mk _ _ _ (by simp [hk0, conv2, newEmp, convs_refl, convs, conv]) (by simp [hk0, heapFit, newEmp, conv2s, conv2, convs_refl, convs, conv]) (by intro q hq; first | (simp at hq; done) | (simp at hq; omega) | (simp at hq; simp; omega))
        · rintro ⟨i, n⟩ ⟨hi, hn, hno⟩
          dsimp only at hi hn hno ⊢
          have hnl : ∀ k, (n + k < n) = False := fun k => eq_false (by omega)
          have hl0 : ∀ k, (n + k = 0) = False := fun k => eq_false (by omega)
          have hl1 : ∀ k, (n + k = 1) = False := fun k => eq_false (by omega)
          have hl2 : ∀ k, (n + k = 2) = False := fun k => eq_false (by omega)
          have hb0 : ∀ k, 0 < n + k := fun k => by omega
          have hb1 : ∀ k, 1 < n + k := fun k => by omega
          have hb2 : ∀ k, 2 < n + k := fun k => by omega
          repeat refine AW.seq ?_
          refine AW.reg ?_
          by_cases hlt : i < xs.length
          · have hF := hlt
            repeat (first | refine wD1 ?_ | refine wD2 ?_ | refine wE1 ?_ | refine wE2 ?_ | (refine wE3 ?_; intro _) | (refine wE4 ?_; intro _) | refine wN ?_ | ((with_reducible show evIs _ (_ :: _) _ _); first | refine wQ ?_ | refine wF ?_ | refine wG ?_ | refine wT ?_ | refine wM ?_ | refine wS ?_ | refine wP ?_ | refine wJ ?_ | refine wX ?_ | refine wY ?_))
            clear hF
            repeat refine evDone ?_
            try (show AW _ _ _ _ _)
            repeat refine AW.seq ?_
            refine AW.condT (by simp []) (by simp []) ?_
            refine AW.skip ?_
            show AW _ _ _ _ _
            refine AW.seq (AW.block ?_)
            have hx : ∃ x, xs[i]? = some x := ⟨_, List.getElem?_eq_getElem hlt⟩
            obtain ⟨x, hx⟩ := hx
            have he := elem_map (f := Item.av) hx
            obtain ⟨⟨t1, t2, t3, t4, t5, t6, t7, t8, t9⟩, hd, tk, tl, tr⟩ := x
            simp only [Item.av] at he
            repeat refine AW.seq ?_
            refine AW.reg ?_
            have hF := And.intro (hlt) (And.intro (he) (And.intro (hl0) (And.intro (hl1) (And.intro (hl2) (hnl)))))
            repeat (first | refine wD1 ?_ | refine wD2 ?_ | refine wE1 ?_ | refine wE2 ?_ | (refine wE3 ?_; intro _) | (refine wE4 ?_; intro _) | refine wN ?_ | ((with_reducible show evIs _ (_ :: _) _ _); first | refine wQ ?_ | refine wF ?_ | refine wG ?_ | refine wT ?_ | refine wM ?_ | refine wS ?_ | refine wP ?_ | refine wJ ?_ | refine wX ?_ | refine wY ?_))
            clear hF
            repeat refine evDone ?_
            try (show AW _ _ _ _ _)
            repeat refine AW.seq ?_
            refine AW.draw ?_
            have hF := And.intro (hl0) (And.intro (hl1) (And.intro (hl2) (hnl)))
            repeat (first | refine wD1 ?_ | refine wD2 ?_ | refine wE1 ?_ | refine wE2 ?_ | (refine wE3 ?_; intro _) | (refine wE4 ?_; intro _) | refine wN ?_ | ((with_reducible show evIs _ (_ :: _) _ _); first | refine wQ ?_ | refine wF ?_ | refine wG ?_ | refine wT ?_ | refine wM ?_ | refine wS ?_ | refine wP ?_ | refine wJ ?_ | refine wX ?_ | refine wY ?_))
            clear hF
            repeat refine evDone ?_
            try (show AW _ _ _ _ _)
            have h29 := f29 ⟨t1, t2, t3, t4, t5, t6, t7, t8, t9⟩
            simp only [Task.cells] at h29
            have hF := True.intro
            refine wC (hA := h29) ?_
            clear hF
            have hF := And.intro (hl0) (And.intro (hl1) (And.intro (hl2) (hnl)))
            repeat (first | refine wD1 ?_ | refine wD2 ?_ | refine wE1 ?_ | refine wE2 ?_ | (refine wE3 ?_; intro _) | (refine wE4 ?_; intro _) | refine wN ?_ | ((with_reducible show evIs _ (_ :: _) _ _); first | refine wQ ?_ | refine wF ?_ | refine wG ?_ | refine wT ?_ | refine wM ?_ | refine wS ?_ | refine wP ?_ | refine wJ ?_ | refine wX ?_ | refine wY ?_))
            clear hF
            repeat refine evDone ?_
            try (show AW _ _ _ _ _)
            have h29' := f29 ⟨a1, a2, a3, a4, a5, a6, a7, a8, a9⟩
            simp only [Task.cells] at h29'
            have hF := True.intro
            refine wC (hA := h29') ?_
            clear hF
            by_cases hk : t7 = a7 ∧ t8 = a8 ∧ t1 = a1
            · have hk' := hk
              obtain ⟨hk1, hk2, hk3⟩ := hk
              have hF := And.intro (hk1) (And.intro (hk2) (And.intro (hk3) (And.intro (hl0) (And.intro (hl1) (And.intro (hl2) (hnl))))))
              repeat (first | refine wD1 ?_ | refine wD2 ?_ | refine wE1 ?_ | refine wE2 ?_ | (refine wE3 ?_; intro _) | (refine wE4 ?_; intro _) | refine wN ?_ | ((with_reducible show evIs _ (_ :: _) _ _); first | refine wQ ?_ | refine wF ?_ | refine wG ?_ | refine wT ?_ | refine wM ?_ | refine wS ?_ | refine wP ?_ | refine wJ ?_ | refine wX ?_ | refine wY ?_))
              clear hF
              repeat refine evDone ?_
              try (show AW _ _ _ _ _)
              repeat refine AW.seq ?_
              refine AW.condT (by simp []) (by simp []) ?_
              repeat refine AW.seq ?_
              refine AW.reg ?_
              have hF := And.intro (hl0) (And.intro (hl1) (And.intro (hl2) (hnl)))
              repeat (first | refine wD1 ?_ | refine wD2 ?_ | refine wE1 ?_ | refine wE2 ?_ | (refine wE3 ?_; intro _) | (refine wE4 ?_; intro _) | refine wN ?_ | ((with_reducible show evIs _ (_ :: _) _ _); first | refine wQ ?_ | refine wF ?_ | refine wG ?_ | refine wT ?_ | refine wM ?_ | refine wS ?_ | refine wP ?_ | refine wJ ?_ | refine wX ?_ | refine wY ?_))
              clear hF
              repeat refine evDone ?_
              try (show AW _ _ _ _ _)
              have hF := hcl
              refine wC (hA := f30 (xs.map Item.av) tok hu (by simp; omega) (by simp; omega)) ?_
              clear hF
              have hF := And.intro (hl0) (And.intro (hl1) (And.intro (hl2) (hnl)))
              repeat (first | refine wD1 ?_ | refine wD2 ?_ | refine wE1 ?_ | refine wE2 ?_ | (refine wE3 ?_; intro _) | (refine wE4 ?_; intro _) | refine wN ?_ | ((with_reducible show evIs _ (_ :: _) _ _); first | refine wQ ?_ | refine wF ?_ | refine wG ?_ | refine wT ?_ | refine wM ?_ | refine wS ?_ | refine wP ?_ | refine wJ ?_ | refine wX ?_ | refine wY ?_))
              clear hF
              repeat refine evDone ?_
              try (show AW _ _ _ _ _)
              refine AW.ret (retI rfl ?_)
              simp [addQ, addB, addE, Task.bad, h1, h2, h3, qv, any_at (p := sameKey ⟨a1, a2, a3, a4, a5, a6, a7, a8, a9⟩) hx (by simp [sameKey, hk1, hk2, hk3]), hl0, hl1, hl2, a9_res, resOk, resP, resV, ARes.op, R2s, R2, R1s, R1, closeOk, closeV]
            · have hkf : ((t7 = a7 ∧ t8 = a8 ∧ t1 = a1) = True) = False := by simp [hk]
              have hks : sameKey ⟨a1, a2, a3, a4, a5, a6, a7, a8, a9⟩ ⟨⟨t1, t2, t3, t4, t5, t6, t7, t8, t9⟩, hd, tk, tl, tr⟩ = false := by
                simp only [sameKey]; simp; intro ha hb hc; exact hk ⟨ha, hb, hc⟩
              have hF := And.intro (hk) (And.intro (hl0) (And.intro (hl1) (And.intro (hl2) (hnl))))
              repeat (first | refine wD1 ?_ | refine wD2 ?_ | refine wE1 ?_ | refine wE2 ?_ | (refine wE3 ?_; intro _) | (refine wE4 ?_; intro _) | refine wN ?_ | ((with_reducible show evIs _ (_ :: _) _ _); first | refine wQ ?_ | refine wF ?_ | refine wG ?_ | refine wT ?_ | refine wM ?_ | refine wS ?_ | refine wP ?_ | refine wJ ?_ | refine wX ?_ | refine wY ?_))
              clear hF
              repeat refine evDone ?_
              try (show AW _ _ _ _ _)
              repeat refine AW.seq ?_
              refine AW.condF (by simp) (by simpa using hk) ?_
              refine AW.skip ?_
              show AW _ _ _ _ _
              refine AW.reg ?_
              have hw : IntKind.i64.wrap ((i : Int) + 1) = (i : Int) + 1 := i64_in _ ⟨by omega, by omega⟩
              have hF := hw
              repeat (first | refine wD1 ?_ | refine wD2 ?_ | refine wE1 ?_ | refine wE2 ?_ | (refine wE3 ?_; intro _) | (refine wE4 ?_; intro _) | refine wN ?_ | ((with_reducible show evIs _ (_ :: _) _ _); first | refine wQ ?_ | refine wF ?_ | refine wG ?_ | refine wT ?_ | refine wM ?_ | refine wS ?_ | refine wP ?_ | refine wJ ?_ | refine wX ?_ | refine wY ?_))
              clear hF
              repeat refine evDone ?_
              try (show AW _ _ _ _ _)
              refine ⟨(i + 1, n + 60), ⟨by dsimp only; omega, by dsimp only; omega, no_step hno hx hks⟩, by dsimp only; omega, ?_⟩
              refine Fit.mk _ _ _ (by simp [hw, hb0, hb1, hb2, hl0, hl1, hl2, conv2, newEmp, convs_refl, convs, conv]) (by simp [hw, hb0, hb1, hb2, hl0, hl1, hl2, heapFit, newEmp, conv2s, conv2, convs_refl, convs, conv]) (by intro q hq; first | (simp at hq; done) | (simp at hq; omega) | (simp at hq; simp; omega))
          · have hlt2 : ¬ (i : Int) < xs.length := by omega
            have hF := And.intro (hlt) (hlt2)
            repeat (first | refine wD1 ?_ | refine wD2 ?_ | refine wE1 ?_ | refine wE2 ?_ | (refine wE3 ?_; intro _) | (refine wE4 ?_; intro _) | refine wN ?_ | ((with_reducible show evIs _ (_ :: _) _ _); first | refine wQ ?_ | refine wF ?_ | refine wG ?_ | refine wT ?_ | refine wM ?_ | refine wS ?_ | refine wP ?_ | refine wJ ?_ | refine wX ?_ | refine wY ?_))
            clear hF
            repeat refine evDone ?_
            try (show AW _ _ _ _ _)
            repeat refine AW.seq ?_
            refine AW.condF (by simp []) (by simp []) ?_
            refine AW.exit ?_
            show AW _ _ _ _ _
            have hii : i = xs.length := by omega
            subst hii
            have hany := any_no hno
            by_cases h4 : 1000 ≤ xs.length
            · have h4' : (1000 : Int) ≤ xs.length := by omega
              repeat refine AW.seq ?_
              refine AW.reg ?_
              have hF := h4'
              repeat (first | refine wD1 ?_ | refine wD2 ?_ | refine wE1 ?_ | refine wE2 ?_ | (refine wE3 ?_; intro _) | (refine wE4 ?_; intro _) | refine wN ?_ | ((with_reducible show evIs _ (_ :: _) _ _); first | refine wQ ?_ | refine wF ?_ | refine wG ?_ | refine wT ?_ | refine wM ?_ | refine wS ?_ | refine wP ?_ | refine wJ ?_ | refine wX ?_ | refine wY ?_))
              clear hF
              repeat refine evDone ?_
              try (show AW _ _ _ _ _)
              repeat refine AW.seq ?_
              refine AW.condT (by simp []) (by simp []) ?_
              repeat refine AW.seq ?_
              refine AW.reg ?_
              have hF := True.intro
              repeat (first | refine wD1 ?_ | refine wD2 ?_ | refine wE1 ?_ | refine wE2 ?_ | (refine wE3 ?_; intro _) | (refine wE4 ?_; intro _) | refine wN ?_ | ((with_reducible show evIs _ (_ :: _) _ _); first | refine wQ ?_ | refine wF ?_ | refine wG ?_ | refine wT ?_ | refine wM ?_ | refine wS ?_ | refine wP ?_ | refine wJ ?_ | refine wX ?_ | refine wY ?_))
              clear hF
              repeat refine evDone ?_
              try (show AW _ _ _ _ _)
              refine AW.ret (retI rfl ?_)
              simp [addQ, addB, addE, Task.bad, h1, h2, h3, hany, h4, qz, a9_res, resOk, resP, resV, ARes.op, R2s, R2, R1s, R1, closeOk, closeV]
            · have h4' : ¬ (1000 : Int) ≤ xs.length := by omega
              repeat refine AW.seq ?_
              refine AW.reg ?_
              have hF := h4'
              repeat (first | refine wD1 ?_ | refine wD2 ?_ | refine wE1 ?_ | refine wE2 ?_ | (refine wE3 ?_; intro _) | (refine wE4 ?_; intro _) | refine wN ?_ | ((with_reducible show evIs _ (_ :: _) _ _); first | refine wQ ?_ | refine wF ?_ | refine wG ?_ | refine wT ?_ | refine wM ?_ | refine wS ?_ | refine wP ?_ | refine wJ ?_ | refine wX ?_ | refine wY ?_))
              clear hF
              repeat refine evDone ?_
              try (show AW _ _ _ _ _)
              repeat refine AW.seq ?_
              refine AW.condF (by simp []) (by simp []) ?_
              refine AW.skip ?_
              show AW _ _ _ _ _
              repeat refine AW.seq ?_
              refine AW.reg ?_
              have hF := True.intro
              repeat (first | refine wD1 ?_ | refine wD2 ?_ | refine wE1 ?_ | refine wE2 ?_ | (refine wE3 ?_; intro _) | (refine wE4 ?_; intro _) | refine wN ?_ | ((with_reducible show evIs _ (_ :: _) _ _); first | refine wQ ?_ | refine wF ?_ | refine wG ?_ | refine wT ?_ | refine wM ?_ | refine wS ?_ | refine wP ?_ | refine wJ ?_ | refine wX ?_ | refine wY ?_))
              clear hF
              repeat refine evDone ?_
              try (show AW _ _ _ _ _)
              have hF := True.intro
              refine wL (hA := f30b (n + 1000) (xs.map Item.av) tok hu (by simp; omega) (by simp; omega)) ?_
              clear hF
              rintro _ _ _ ⟨rfl, rfl, rfl⟩
              have hF := And.intro (hl0) (And.intro (hl1) (And.intro (hl2) (hnl)))
              repeat (first | refine wD1 ?_ | refine wD2 ?_ | refine wE1 ?_ | refine wE2 ?_ | (refine wE3 ?_; intro _) | (refine wE4 ?_; intro _) | refine wN ?_ | ((with_reducible show evIs _ (_ :: _) _ _); first | refine wQ ?_ | refine wF ?_ | refine wG ?_ | refine wT ?_ | refine wM ?_ | refine wS ?_ | refine wP ?_ | refine wJ ?_ | refine wX ?_ | refine wY ?_))
              clear hF
              repeat refine evDone ?_
              try (show AW _ _ _ _ _)
              repeat refine AW.seq ?_
              refine AW.reg ?_
              have hby : (xs.length + 1) * 136 ≤ 140737488355328 := by omega
              have hby2 : xs.length + 1 ≤ 9223372036854775807 := by omega
              have hF := And.intro (hby) (And.intro (hby2) (And.intro (hnl) (And.intro (hl0) (And.intro (hl1) (hl2)))))
              repeat (first | refine wD1 ?_ | refine wD2 ?_ | refine wE1 ?_ | refine wE2 ?_ | (refine wE3 ?_; intro _) | (refine wE4 ?_; intro _) | refine wN ?_ | ((with_reducible show evIs _ (_ :: _) _ _); first | refine wQ ?_ | refine wF ?_ | refine wG ?_ | refine wT ?_ | refine wM ?_ | refine wS ?_ | refine wP ?_ | refine wJ ?_ | refine wX ?_ | refine wY ?_))
              clear hF
              repeat refine evDone ?_
              try (show AW _ _ _ _ _)
              repeat refine AW.seq ?_
              refine AW.reg ?_
              have hF := True.intro
              repeat (first | refine wD1 ?_ | refine wD2 ?_ | refine wE1 ?_ | refine wE2 ?_ | (refine wE3 ?_; intro _) | (refine wE4 ?_; intro _) | refine wN ?_ | ((with_reducible show evIs _ (_ :: _) _ _); first | refine wQ ?_ | refine wF ?_ | refine wG ?_ | refine wT ?_ | refine wM ?_ | refine wS ?_ | refine wP ?_ | refine wJ ?_ | refine wX ?_ | refine wY ?_))
              clear hF
              repeat refine evDone ?_
              try (show AW _ _ _ _ _)
              refine AW.ret (retI rfl ?_)
              simp [addQ, addB, addE, Task.bad, h1, h2, h3, hany, h4, qv, newItem, Item.av, hl0, hl1, hl2, a9_res, resOk, resP, resV, ARes.op, R2s, R2, R1s, R1, closeOk, closeV]
              exact (List.take_of_length_le (by simp)).symm
theorem f31b (N : Nat) (xs : List Item) (tok : Int) (hb : xs.length * 136 ≤ 140737488355328) :
    BCall Try.prog 31 [] N [.agg [items xs, .int .i64 tok]] (fun H1 n' v => H1 = [(N + 5, ⟨13, false, xs.map Item.av⟩)] ∧ n' = N + 20 ∧ v = .agg [.hdr (N + 5) 0 xs.length, .int .i64 tok]) := by
  have hnl : ∀ k, (N + k < N) = False := fun k => eq_false (by omega)
  have hl : xs.length ≤ 9223372036854775807 := by omega
  have ht : (xs.map Item.av).take xs.length = xs.map Item.av := List.take_of_length_le (by simp)
  refine bcall_coded a31_ok (by simp) ?_
  repeat refine AW.seq ?_
  refine AW.reg ?_
  have hF := hnl
  repeat (first | refine wD1 ?_ | refine wD2 ?_ | refine wE1 ?_ | refine wE2 ?_ | (refine wE3 ?_; intro _) | (refine wE4 ?_; intro _) | refine wN ?_ | ((with_reducible show evIs _ (_ :: _) _ _); first | refine wQ ?_ | refine wF ?_ | refine wG ?_ | refine wT ?_ | refine wM ?_ | refine wS ?_ | refine wP ?_ | refine wJ ?_ | refine wX ?_ | refine wY ?_))
  clear hF
  repeat refine evDone ?_
  try (show AW _ _ _ _ _)
  repeat refine AW.seq ?_
  refine AW.draw ?_
  have hF := And.intro (hb) (And.intro (hl) (hnl))
  repeat (first | refine wD1 ?_ | refine wD2 ?_ | refine wE1 ?_ | refine wE2 ?_ | (refine wE3 ?_; intro _) | (refine wE4 ?_; intro _) | refine wN ?_ | ((with_reducible show evIs _ (_ :: _) _ _); first | refine wQ ?_ | refine wF ?_ | refine wG ?_ | refine wT ?_ | refine wM ?_ | refine wS ?_ | refine wP ?_ | refine wJ ?_ | refine wX ?_ | refine wY ?_))
  clear hF
  repeat refine evDone ?_
  try (show AW _ _ _ _ _)
  refine AW.ret ⟨by simp [resP, a31_res, ARes.op], [(N + 5, ⟨13, false, xs.map Item.av⟩)], N + 20, [.agg [.hdr (N + 5) 0 xs.length, .int .i64 tok]], ⟨rfl, rfl, rfl⟩, by omega, by simp, rfl, by simp, ?_⟩
  simp only [resV, a31_res, List.map_cons, List.map_nil, ARes.op]
  refine Fit.mk _ _ _ (by simp [conv2, newEmp, convs_refl, convs, conv]) (by simp [heapFit, newEmp, conv2s, conv2, convs_refl, convs, conv]) (by intro q hq; first | (simp at hq; done) | (simp at hq; omega) | (simp at hq; simp; omega))
theorem f10 (xs : List Item) (tok : Int) (t : Task) (hlen : xs.length ≤ 1001) :
    ACall Try.prog 10 [.agg [items xs, .int .i64 tok], .agg t.cells] (· = .tup [addQ .fro xs tok t, .bool (addB xs t), .int .i64 (addE xs t)]) := by
  obtain ⟨a1, a2, a3, a4, a5, a6, a7, a8, a9⟩ := t
  have hu : ∀ x ∈ xs.map Item.av, (cellsOf x).length = 13 := by simp
  have hcl := clC_items xs
  simp only [Task.cells]
  have hk0 : 0 ≤ xs.length := by omega
  refine a10_of (by simp) ?_
  repeat refine AW.seq ?_
  refine AW.reg ?_
  have hF := True.intro
  repeat (first | refine wD1 ?_ | refine wD2 ?_ | refine wE1 ?_ | refine wE2 ?_ | (refine wE3 ?_; intro _) | (refine wE4 ?_; intro _) | refine wN ?_ | ((with_reducible show evIs _ (_ :: _) _ _); first | refine wQ ?_ | refine wF ?_ | refine wG ?_ | refine wT ?_ | refine wM ?_ | refine wS ?_ | refine wP ?_ | refine wJ ?_ | refine wX ?_ | refine wY ?_))
  clear hF
  repeat refine evDone ?_
  try (show AW _ _ _ _ _)
  repeat refine AW.seq ?_
  refine AW.reg ?_
  by_cases h1 : a7 = ⟨#[]⟩
  · have hF := h1
    repeat (first | refine wD1 ?_ | refine wD2 ?_ | refine wE1 ?_ | refine wE2 ?_ | (refine wE3 ?_; intro _) | (refine wE4 ?_; intro _) | refine wN ?_ | ((with_reducible show evIs _ (_ :: _) _ _); first | refine wQ ?_ | refine wF ?_ | refine wG ?_ | refine wT ?_ | refine wM ?_ | refine wS ?_ | refine wP ?_ | refine wJ ?_ | refine wX ?_ | refine wY ?_))
    clear hF
    repeat refine evDone ?_
    try (show AW _ _ _ _ _)
    repeat refine AW.seq ?_
    refine AW.condT (by simp []) (by simp []) ?_
    repeat refine AW.seq ?_
    refine AW.reg ?_
    have hF := True.intro
    repeat (first | refine wD1 ?_ | refine wD2 ?_ | refine wE1 ?_ | refine wE2 ?_ | (refine wE3 ?_; intro _) | (refine wE4 ?_; intro _) | refine wN ?_ | ((with_reducible show evIs _ (_ :: _) _ _); first | refine wQ ?_ | refine wF ?_ | refine wG ?_ | refine wT ?_ | refine wM ?_ | refine wS ?_ | refine wP ?_ | refine wJ ?_ | refine wX ?_ | refine wY ?_))
    clear hF
    repeat refine evDone ?_
    try (show AW _ _ _ _ _)
    refine AW.ret (retI rfl ?_)
    simp [addQ, addB, addE, Task.bad, h1, qz, a10_res, resOk, resP, resV, ARes.op, R2s, R2, R1s, R1, closeOk, closeV]
  · by_cases h2 : a8 = ⟨#[]⟩
    · have hF := And.intro (h1) (h2)
      repeat (first | refine wD1 ?_ | refine wD2 ?_ | refine wE1 ?_ | refine wE2 ?_ | (refine wE3 ?_; intro _) | (refine wE4 ?_; intro _) | refine wN ?_ | ((with_reducible show evIs _ (_ :: _) _ _); first | refine wQ ?_ | refine wF ?_ | refine wG ?_ | refine wT ?_ | refine wM ?_ | refine wS ?_ | refine wP ?_ | refine wJ ?_ | refine wX ?_ | refine wY ?_))
      clear hF
      repeat refine evDone ?_
      try (show AW _ _ _ _ _)
      repeat refine AW.seq ?_
      refine AW.condT (by simp []) (by simp []) ?_
      repeat refine AW.seq ?_
      refine AW.reg ?_
      have hF := True.intro
      repeat (first | refine wD1 ?_ | refine wD2 ?_ | refine wE1 ?_ | refine wE2 ?_ | (refine wE3 ?_; intro _) | (refine wE4 ?_; intro _) | refine wN ?_ | ((with_reducible show evIs _ (_ :: _) _ _); first | refine wQ ?_ | refine wF ?_ | refine wG ?_ | refine wT ?_ | refine wM ?_ | refine wS ?_ | refine wP ?_ | refine wJ ?_ | refine wX ?_ | refine wY ?_))
      clear hF
      repeat refine evDone ?_
      try (show AW _ _ _ _ _)
      refine AW.ret (retI rfl ?_)
      simp [addQ, addB, addE, Task.bad, h1, h2, qz, a10_res, resOk, resP, resV, ARes.op, R2s, R2, R1s, R1, closeOk, closeV]
    · by_cases h3 : a1 < 1
      · have hF := And.intro (h1) (And.intro (h2) (h3))
        repeat (first | refine wD1 ?_ | refine wD2 ?_ | refine wE1 ?_ | refine wE2 ?_ | (refine wE3 ?_; intro _) | (refine wE4 ?_; intro _) | refine wN ?_ | ((with_reducible show evIs _ (_ :: _) _ _); first | refine wQ ?_ | refine wF ?_ | refine wG ?_ | refine wT ?_ | refine wM ?_ | refine wS ?_ | refine wP ?_ | refine wJ ?_ | refine wX ?_ | refine wY ?_))
        clear hF
        repeat refine evDone ?_
        try (show AW _ _ _ _ _)
        repeat refine AW.seq ?_
        refine AW.condT (by simp []) (by simp []) ?_
        repeat refine AW.seq ?_
        refine AW.reg ?_
        have hF := True.intro
        repeat (first | refine wD1 ?_ | refine wD2 ?_ | refine wE1 ?_ | refine wE2 ?_ | (refine wE3 ?_; intro _) | (refine wE4 ?_; intro _) | refine wN ?_ | ((with_reducible show evIs _ (_ :: _) _ _); first | refine wQ ?_ | refine wF ?_ | refine wG ?_ | refine wT ?_ | refine wM ?_ | refine wS ?_ | refine wP ?_ | refine wJ ?_ | refine wX ?_ | refine wY ?_))
        clear hF
        repeat refine evDone ?_
        try (show AW _ _ _ _ _)
        refine AW.ret (retI rfl ?_)
        simp [addQ, addB, addE, Task.bad, h1, h2, h3, qz, a10_res, resOk, resP, resV, ARes.op, R2s, R2, R1s, R1, closeOk, closeV]
      · have hF := And.intro (h1) (And.intro (h2) (h3))
        repeat (first | refine wD1 ?_ | refine wD2 ?_ | refine wE1 ?_ | refine wE2 ?_ | (refine wE3 ?_; intro _) | (refine wE4 ?_; intro _) | refine wN ?_ | ((with_reducible show evIs _ (_ :: _) _ _); first | refine wQ ?_ | refine wF ?_ | refine wG ?_ | refine wT ?_ | refine wM ?_ | refine wS ?_ | refine wP ?_ | refine wJ ?_ | refine wX ?_ | refine wY ?_))
        clear hF
        repeat refine evDone ?_
        try (show AW _ _ _ _ _)
        repeat refine AW.seq ?_
        refine AW.condF (by simp []) (by simp []) ?_
        refine AW.skip ?_
        show AW _ _ _ _ _
        repeat refine AW.seq ?_
        refine AW.reg ?_
        have hF := True.intro
        repeat (first | refine wD1 ?_ | refine wD2 ?_ | refine wE1 ?_ | refine wE2 ?_ | (refine wE3 ?_; intro _) | (refine wE4 ?_; intro _) | refine wN ?_ | ((with_reducible show evIs _ (_ :: _) _ _); first | refine wQ ?_ | refine wF ?_ | refine wG ?_ | refine wT ?_ | refine wM ?_ | refine wS ?_ | refine wP ?_ | refine wJ ?_ | refine wX ?_ | refine wY ?_))
        clear hF
        repeat refine evDone ?_
        try (show AW _ _ _ _ _)
        repeat refine AW.seq ?_
        refine AW.block ?_
        refine AW.loop (fun g : Nat × Nat => g.1 ≤ xs.length ∧ 3 ≤ g.2 ∧ (∀ j, j < g.1 → ∀ x, xs[j]? = some x → sameKey ⟨a1, a2, a3, a4, a5, a6, a7, a8, a9⟩ x = false)) (fun g => mkS [(2, .ptr 0 0 0), (3, .ptr 1 0 0), (4, .ptr 2 0 0), (25, items xs), (26, .int .i64 xs.length), (27, .int .i64 g.1)] [(0, ⟨2, true, [.agg [items xs, .int .i64 tok]]⟩), (1, ⟨9, true, [.agg [.int .i64 a1, .int .i64 a2, .int .i64 a3, .int .i64 a4, .int .i64 a5, .int .i64 a6, .str a7, .str a8, .str a9]]⟩), (2, ⟨2, true, [.agg [.sl .ext [], .int .i64 0]]⟩)] g.2) (fun g => xs.length - g.1) (0, 10) ⟨by simp, by simp, fun j hj => absurd hj (by simp)⟩ ?_ ?_
        · refine Fit.mk _ _ _ (by simp [hk0, conv2, newEmp, convs_refl, convs, conv]) (by simp [hk0, heapFit, newEmp, conv2s, conv2, convs_refl, convs, conv]) (by intro q hq; first | (simp at hq; done) | (simp at hq; omega) | (simp at hq; simp; omega))
        · rintro ⟨i, n⟩ ⟨hi, hn, hno⟩
          dsimp only at hi hn hno ⊢
          have hnl : ∀ k, (n + k < n) = False := fun k => eq_false (by omega)
          have hl0 : ∀ k, (n + k = 0) = False := fun k => eq_false (by omega)
          have hl1 : ∀ k, (n + k = 1) = False := fun k => eq_false (by omega)
          have hl2 : ∀ k, (n + k = 2) = False := fun k => eq_false (by omega)
          have hb0 : ∀ k, 0 < n + k := fun k => by omega
          have hb1 : ∀ k, 1 < n + k := fun k => by omega
          have hb2 : ∀ k, 2 < n + k := fun k => by omega
          repeat refine AW.seq ?_
          refine AW.reg ?_
          by_cases hlt : i < xs.length
          · have hF := hlt
            repeat (first | refine wD1 ?_ | refine wD2 ?_ | refine wE1 ?_ | refine wE2 ?_ | (refine wE3 ?_; intro _) | (refine wE4 ?_; intro _) | refine wN ?_ | ((with_reducible show evIs _ (_ :: _) _ _); first | refine wQ ?_ | refine wF ?_ | refine wG ?_ | refine wT ?_ | refine wM ?_ | refine wS ?_ | refine wP ?_ | refine wJ ?_ | refine wX ?_ | refine wY ?_))
            clear hF
            repeat refine evDone ?_
            try (show AW _ _ _ _ _)
            repeat refine AW.seq ?_
            refine AW.condT (by simp []) (by simp []) ?_
            refine AW.skip ?_
            show AW _ _ _ _ _
            refine AW.seq (AW.block ?_)
            have hx : ∃ x, xs[i]? = some x := ⟨_, List.getElem?_eq_getElem hlt⟩
            obtain ⟨x, hx⟩ := hx
            have he := elem_map (f := Item.av) hx
            obtain ⟨⟨t1, t2, t3, t4, t5, t6, t7, t8, t9⟩, hd, tk, tl, tr⟩ := x
            simp only [Item.av] at he
            repeat refine AW.seq ?_
            refine AW.reg ?_
            have hF := And.intro (hlt) (And.intro (he) (And.intro (hl0) (And.intro (hl1) (And.intro (hl2) (hnl)))))
            repeat (first | refine wD1 ?_ | refine wD2 ?_ | refine wE1 ?_ | refine wE2 ?_ | (refine wE3 ?_; intro _) | (refine wE4 ?_; intro _) | refine wN ?_ | ((with_reducible show evIs _ (_ :: _) _ _); first | refine wQ ?_ | refine wF ?_ | refine wG ?_ | refine wT ?_ | refine wM ?_ | refine wS ?_ | refine wP ?_ | refine wJ ?_ | refine wX ?_ | refine wY ?_))
            clear hF
            repeat refine evDone ?_
            try (show AW _ _ _ _ _)
            have H : (t7 = a7 ∧ t8 = a8 ∧ t1 = a1) ∨ ¬ (t7 = a7 ∧ t8 = a8 ∧ t1 = a1) := Classical.em _
            repeat refine AW.seq ?_
            refine AW.reg ?_
            rcases H with ⟨hk1, hk2, hk3⟩ | hk
            · have hF := And.intro (hk1) (And.intro (hk2) (And.intro (hk3) (And.intro (hl0) (And.intro (hl1) (And.intro (hl2) (hnl))))))
              repeat (first | refine wD1 ?_ | refine wD2 ?_ | refine wE1 ?_ | refine wE2 ?_ | (refine wE3 ?_; intro _) | (refine wE4 ?_; intro _) | refine wN ?_ | ((with_reducible show evIs _ (_ :: _) _ _); first | refine wQ ?_ | refine wF ?_ | refine wG ?_ | refine wT ?_ | refine wM ?_ | refine wS ?_ | refine wP ?_ | refine wJ ?_ | refine wX ?_ | refine wY ?_))
              clear hF
              repeat refine evDone ?_
              try (show AW _ _ _ _ _)
              repeat refine AW.seq ?_
              refine AW.condT (by simp []) (by simp []) ?_
              repeat refine AW.seq ?_
              refine AW.reg ?_
              have hF := And.intro (hl0) (And.intro (hl1) (And.intro (hl2) (hnl)))
              repeat (first | refine wD1 ?_ | refine wD2 ?_ | refine wE1 ?_ | refine wE2 ?_ | (refine wE3 ?_; intro _) | (refine wE4 ?_; intro _) | refine wN ?_ | ((with_reducible show evIs _ (_ :: _) _ _); first | refine wQ ?_ | refine wF ?_ | refine wG ?_ | refine wT ?_ | refine wM ?_ | refine wS ?_ | refine wP ?_ | refine wJ ?_ | refine wX ?_ | refine wY ?_))
              clear hF
              repeat refine evDone ?_
              try (show AW _ _ _ _ _)
              have hF := hcl
              refine wC (hA := f31 xs tok (by omega)) ?_
              clear hF
              have hF := And.intro (hl0) (And.intro (hl1) (And.intro (hl2) (hnl)))
              repeat (first | refine wD1 ?_ | refine wD2 ?_ | refine wE1 ?_ | refine wE2 ?_ | (refine wE3 ?_; intro _) | (refine wE4 ?_; intro _) | refine wN ?_ | ((with_reducible show evIs _ (_ :: _) _ _); first | refine wQ ?_ | refine wF ?_ | refine wG ?_ | refine wT ?_ | refine wM ?_ | refine wS ?_ | refine wP ?_ | refine wJ ?_ | refine wX ?_ | refine wY ?_))
              clear hF
              repeat refine evDone ?_
              try (show AW _ _ _ _ _)
              refine AW.ret (retI rfl ?_)
              simp [addQ, addB, addE, Task.bad, h1, h2, h3, qv, any_at (p := sameKey ⟨a1, a2, a3, a4, a5, a6, a7, a8, a9⟩) hx (by simp [sameKey, hk1, hk2, hk3]), hl0, hl1, hl2, a10_res, resOk, resP, resV, ARes.op, R2s, R2, R1s, R1, closeOk, closeV]
            · have hkf : ((t7 = a7 ∧ t8 = a8 ∧ t1 = a1) = True) = False := by simp [hk]
              have hks : sameKey ⟨a1, a2, a3, a4, a5, a6, a7, a8, a9⟩ ⟨⟨t1, t2, t3, t4, t5, t6, t7, t8, t9⟩, hd, tk, tl, tr⟩ = false := by
                simp only [sameKey]; simp; intro ha hb hc; exact hk ⟨ha, hb, hc⟩
              by_cases hk1 : t7 = a7
              · by_cases hk2 : t8 = a8
                · have hk3 : ¬ t1 = a1 := fun h => hk ⟨hk1, hk2, h⟩
                  have hF := And.intro (hk1) (And.intro (hk2) (And.intro (hk3) (And.intro (hl0) (And.intro (hl1) (And.intro (hl2) (hnl))))))
                  repeat (first | refine wD1 ?_ | refine wD2 ?_ | refine wE1 ?_ | refine wE2 ?_ | (refine wE3 ?_; intro _) | (refine wE4 ?_; intro _) | refine wN ?_ | ((with_reducible show evIs _ (_ :: _) _ _); first | refine wQ ?_ | refine wF ?_ | refine wG ?_ | refine wT ?_ | refine wM ?_ | refine wS ?_ | refine wP ?_ | refine wJ ?_ | refine wX ?_ | refine wY ?_))
                  clear hF
                  repeat refine evDone ?_
                  try (show AW _ _ _ _ _)
                  repeat refine AW.seq ?_
                  refine AW.condF (by simp [hk1, hk2, hk3]) (by simp [hk1, hk2, hk3]) ?_
                  refine AW.skip ?_
                  show AW _ _ _ _ _
                  refine AW.reg ?_
                  have hw : IntKind.i64.wrap ((i : Int) + 1) = (i : Int) + 1 := i64_in _ ⟨by omega, by omega⟩
                  have hF := hw
                  repeat (first | refine wD1 ?_ | refine wD2 ?_ | refine wE1 ?_ | refine wE2 ?_ | (refine wE3 ?_; intro _) | (refine wE4 ?_; intro _) | refine wN ?_ | ((with_reducible show evIs _ (_ :: _) _ _); first | refine wQ ?_ | refine wF ?_ | refine wG ?_ | refine wT ?_ | refine wM ?_ | refine wS ?_ | refine wP ?_ | refine wJ ?_ | refine wX ?_ | refine wY ?_))
                  clear hF
                  repeat refine evDone ?_
                  try (show AW _ _ _ _ _)
                  refine ⟨(i + 1, n + 60), ⟨by dsimp only; omega, by dsimp only; omega, no_step hno hx hks⟩, by dsimp only; omega, ?_⟩
                  refine Fit.mk _ _ _ (by simp [hw, hb0, hb1, hb2, hl0, hl1, hl2, conv2, newEmp, convs_refl, convs, conv]) (by simp [hw, hb0, hb1, hb2, hl0, hl1, hl2, heapFit, newEmp, conv2s, conv2, convs_refl, convs, conv]) (by intro q hq; first | (simp at hq; done) | (simp at hq; omega) | (simp at hq; simp; omega))
                · have hF := And.intro (hk1) (And.intro (hk2) (And.intro (hl0) (And.intro (hl1) (And.intro (hl2) (hnl)))))
                  repeat (first | refine wD1 ?_ | refine wD2 ?_ | refine wE1 ?_ | refine wE2 ?_ | (refine wE3 ?_; intro _) | (refine wE4 ?_; intro _) | refine wN ?_ | ((with_reducible show evIs _ (_ :: _) _ _); first | refine wQ ?_ | refine wF ?_ | refine wG ?_ | refine wT ?_ | refine wM ?_ | refine wS ?_ | refine wP ?_ | refine wJ ?_ | refine wX ?_ | refine wY ?_))
                  clear hF
                  repeat refine evDone ?_
                  try (show AW _ _ _ _ _)
                  repeat refine AW.seq ?_
                  refine AW.condF (by simp [hk1, hk2]) (by simp [hk1, hk2]) ?_
                  refine AW.skip ?_
                  show AW _ _ _ _ _
                  refine AW.reg ?_
                  have hw : IntKind.i64.wrap ((i : Int) + 1) = (i : Int) + 1 := i64_in _ ⟨by omega, by omega⟩
                  have hF := hw
                  repeat (first | refine wD1 ?_ | refine wD2 ?_ | refine wE1 ?_ | refine wE2 ?_ | (refine wE3 ?_; intro _) | (refine wE4 ?_; intro _) | refine wN ?_ | ((with_reducible show evIs _ (_ :: _) _ _); first | refine wQ ?_ | refine wF ?_ | refine wG ?_ | refine wT ?_ | refine wM ?_ | refine wS ?_ | refine wP ?_ | refine wJ ?_ | refine wX ?_ | refine wY ?_))
                  clear hF
                  repeat refine evDone ?_
                  try (show AW _ _ _ _ _)
                  refine ⟨(i + 1, n + 60), ⟨by dsimp only; omega, by dsimp only; omega, no_step hno hx hks⟩, by dsimp only; omega, ?_⟩
                  refine Fit.mk _ _ _ (by simp [hw, hb0, hb1, hb2, hl0, hl1, hl2, conv2, newEmp, convs_refl, convs, conv]) (by simp [hw, hb0, hb1, hb2, hl0, hl1, hl2, heapFit, newEmp, conv2s, conv2, convs_refl, convs, conv]) (by intro q hq; first | (simp at hq; done) | (simp at hq; omega) | (simp at hq; simp; omega))
              · have hF := And.intro (hk1) (And.intro (hl0) (And.intro (hl1) (And.intro (hl2) (hnl))))
                repeat (first | refine wD1 ?_ | refine wD2 ?_ | refine wE1 ?_ | refine wE2 ?_ | (refine wE3 ?_; intro _) | (refine wE4 ?_; intro _) | refine wN ?_ | ((with_reducible show evIs _ (_ :: _) _ _); first | refine wQ ?_ | refine wF ?_ | refine wG ?_ | refine wT ?_ | refine wM ?_ | refine wS ?_ | refine wP ?_ | refine wJ ?_ | refine wX ?_ | refine wY ?_))
                clear hF
                repeat refine evDone ?_
                try (show AW _ _ _ _ _)
                repeat refine AW.seq ?_
                refine AW.condF (by simp [hk1]) (by simp [hk1]) ?_
                refine AW.skip ?_
                show AW _ _ _ _ _
                refine AW.reg ?_
                have hw : IntKind.i64.wrap ((i : Int) + 1) = (i : Int) + 1 := i64_in _ ⟨by omega, by omega⟩
                have hF := hw
                repeat (first | refine wD1 ?_ | refine wD2 ?_ | refine wE1 ?_ | refine wE2 ?_ | (refine wE3 ?_; intro _) | (refine wE4 ?_; intro _) | refine wN ?_ | ((with_reducible show evIs _ (_ :: _) _ _); first | refine wQ ?_ | refine wF ?_ | refine wG ?_ | refine wT ?_ | refine wM ?_ | refine wS ?_ | refine wP ?_ | refine wJ ?_ | refine wX ?_ | refine wY ?_))
                clear hF
                repeat refine evDone ?_
                try (show AW _ _ _ _ _)
                refine ⟨(i + 1, n + 60), ⟨by dsimp only; omega, by dsimp only; omega, no_step hno hx hks⟩, by dsimp only; omega, ?_⟩
                refine Fit.mk _ _ _ (by simp [hw, hb0, hb1, hb2, hl0, hl1, hl2, conv2, newEmp, convs_refl, convs, conv]) (by simp [hw, hb0, hb1, hb2, hl0, hl1, hl2, heapFit, newEmp, conv2s, conv2, convs_refl, convs, conv]) (by intro q hq; first | (simp at hq; done) | (simp at hq; omega) | (simp at hq; simp; omega))
          · have hlt2 : ¬ (i : Int) < xs.length := by omega
            have hF := And.intro (hlt) (hlt2)
            repeat (first | refine wD1 ?_ | refine wD2 ?_ | refine wE1 ?_ | refine wE2 ?_ | (refine wE3 ?_; intro _) | (refine wE4 ?_; intro _) | refine wN ?_ | ((with_reducible show evIs _ (_ :: _) _ _); first | refine wQ ?_ | refine wF ?_ | refine wG ?_ | refine wT ?_ | refine wM ?_ | refine wS ?_ | refine wP ?_ | refine wJ ?_ | refine wX ?_ | refine wY ?_))
            clear hF
            repeat refine evDone ?_
            try (show AW _ _ _ _ _)
            repeat refine AW.seq ?_
            refine AW.condF (by simp []) (by simp []) ?_
            refine AW.exit ?_
            show AW _ _ _ _ _
            have hii : i = xs.length := by omega
            subst hii
            have hany := any_no hno
            by_cases h4 : 1000 ≤ xs.length
            · have h4' : (1000 : Int) ≤ xs.length := by omega
              repeat refine AW.seq ?_
              refine AW.reg ?_
              have hF := h4'
              repeat (first | refine wD1 ?_ | refine wD2 ?_ | refine wE1 ?_ | refine wE2 ?_ | (refine wE3 ?_; intro _) | (refine wE4 ?_; intro _) | refine wN ?_ | ((with_reducible show evIs _ (_ :: _) _ _); first | refine wQ ?_ | refine wF ?_ | refine wG ?_ | refine wT ?_ | refine wM ?_ | refine wS ?_ | refine wP ?_ | refine wJ ?_ | refine wX ?_ | refine wY ?_))
              clear hF
              repeat refine evDone ?_
              try (show AW _ _ _ _ _)
              repeat refine AW.seq ?_
              refine AW.condT (by simp []) (by simp []) ?_
              repeat refine AW.seq ?_
              refine AW.reg ?_
              have hF := True.intro
              repeat (first | refine wD1 ?_ | refine wD2 ?_ | refine wE1 ?_ | refine wE2 ?_ | (refine wE3 ?_; intro _) | (refine wE4 ?_; intro _) | refine wN ?_ | ((with_reducible show evIs _ (_ :: _) _ _); first | refine wQ ?_ | refine wF ?_ | refine wG ?_ | refine wT ?_ | refine wM ?_ | refine wS ?_ | refine wP ?_ | refine wJ ?_ | refine wX ?_ | refine wY ?_))
              clear hF
              repeat refine evDone ?_
              try (show AW _ _ _ _ _)
              refine AW.ret (retI rfl ?_)
              simp [addQ, addB, addE, Task.bad, h1, h2, h3, hany, h4, qz, a10_res, resOk, resP, resV, ARes.op, R2s, R2, R1s, R1, closeOk, closeV]
            · have h4' : ¬ (1000 : Int) ≤ xs.length := by omega
              repeat refine AW.seq ?_
              refine AW.reg ?_
              have hF := h4'
              repeat (first | refine wD1 ?_ | refine wD2 ?_ | refine wE1 ?_ | refine wE2 ?_ | (refine wE3 ?_; intro _) | (refine wE4 ?_; intro _) | refine wN ?_ | ((with_reducible show evIs _ (_ :: _) _ _); first | refine wQ ?_ | refine wF ?_ | refine wG ?_ | refine wT ?_ | refine wM ?_ | refine wS ?_ | refine wP ?_ | refine wJ ?_ | refine wX ?_ | refine wY ?_))
              clear hF
              repeat refine evDone ?_
              try (show AW _ _ _ _ _)
              repeat refine AW.seq ?_
              refine AW.condF (by simp []) (by simp []) ?_
              refine AW.skip ?_
              show AW _ _ _ _ _
              repeat refine AW.seq ?_
              refine AW.reg ?_
              have hF := True.intro
              repeat (first | refine wD1 ?_ | refine wD2 ?_ | refine wE1 ?_ | refine wE2 ?_ | (refine wE3 ?_; intro _) | (refine wE4 ?_; intro _) | refine wN ?_ | ((with_reducible show evIs _ (_ :: _) _ _); first | refine wQ ?_ | refine wF ?_ | refine wG ?_ | refine wT ?_ | refine wM ?_ | refine wS ?_ | refine wP ?_ | refine wJ ?_ | refine wX ?_ | refine wY ?_))
              clear hF
              repeat refine evDone ?_
              try (show AW _ _ _ _ _)
              have hF := True.intro
              refine wL (hA := f31b (n + 1000) xs tok (by omega)) ?_
              clear hF
              rintro _ _ _ ⟨rfl, rfl, rfl⟩
              have hF := And.intro (hl0) (And.intro (hl1) (And.intro (hl2) (hnl)))
              repeat (first | refine wD1 ?_ | refine wD2 ?_ | refine wE1 ?_ | refine wE2 ?_ | (refine wE3 ?_; intro _) | (refine wE4 ?_; intro _) | refine wN ?_ | ((with_reducible show evIs _ (_ :: _) _ _); first | refine wQ ?_ | refine wF ?_ | refine wG ?_ | refine wT ?_ | refine wM ?_ | refine wS ?_ | refine wP ?_ | refine wJ ?_ | refine wX ?_ | refine wY ?_))
              clear hF
              repeat refine evDone ?_
              try (show AW _ _ _ _ _)
              repeat refine AW.seq ?_
              refine AW.reg ?_
              have hby : (xs.length + 1) * 136 ≤ 140737488355328 := by omega
              have hby2 : xs.length + 1 ≤ 9223372036854775807 := by omega
              have hF := And.intro (hby) (And.intro (hby2) (And.intro (hnl) (And.intro (hl0) (And.intro (hl1) (hl2)))))
              repeat (first | refine wD1 ?_ | refine wD2 ?_ | refine wE1 ?_ | refine wE2 ?_ | (refine wE3 ?_; intro _) | (refine wE4 ?_; intro _) | refine wN ?_ | ((with_reducible show evIs _ (_ :: _) _ _); first | refine wQ ?_ | refine wF ?_ | refine wG ?_ | refine wT ?_ | refine wM ?_ | refine wS ?_ | refine wP ?_ | refine wJ ?_ | refine wX ?_ | refine wY ?_))
              clear hF
              repeat refine evDone ?_
              try (show AW _ _ _ _ _)
              repeat refine AW.seq ?_
              refine AW.reg ?_
              have hF := True.intro
              repeat (first | refine wD1 ?_ | refine wD2 ?_ | refine wE1 ?_ | refine wE2 ?_ | (refine wE3 ?_; intro _) | (refine wE4 ?_; intro _) | refine wN ?_ | ((with_reducible show evIs _ (_ :: _) _ _); first | refine wQ ?_ | refine wF ?_ | refine wG ?_ | refine wT ?_ | refine wM ?_ | refine wS ?_ | refine wP ?_ | refine wJ ?_ | refine wX ?_ | refine wY ?_))
              clear hF
              repeat refine evDone ?_
              try (show AW _ _ _ _ _)
              refine AW.ret (retI rfl ?_)
              simp [addQ, addB, addE, Task.bad, h1, h2, h3, hany, h4, qv, newItem, Item.av, hl0, hl1, hl2, a10_res, resOk, resP, resV, ARes.op, R2s, R2, R1s, R1, closeOk, closeV]
              exact (List.take_of_length_le (by simp)).symm
end Go.Proofs.Ytloccbmiojhabaa
