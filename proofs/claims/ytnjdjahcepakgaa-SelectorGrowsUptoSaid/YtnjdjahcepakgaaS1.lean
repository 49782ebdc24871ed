/- Contracts of chapter 17's functions, first part. -/
import Derived.Test.YtnjdjahcepakgaaB
import Derived.Test.YtnjdjahcepakgaaA2
import Derived.IntWalk

set_option linter.unusedSimpArgs false
set_option linter.unusedVariables false
set_option maxHeartbeats 4000000
namespace Go.Proofs.Ytnjdjahcepakgaa
open Go Go.Amb

structure Fut where
  st : Int
  rest : List AV
  hl : rest.length = 7
  h1 : ∀ c ∈ rest, c.shr = true
def Fut.av (f : Fut) : AV := .agg (.int .i64 f.st :: f.rest)
abbrev futs (fs : List Fut) : AV := .sl .fro (fs.map Fut.av)
abbrev ints (xs : List Int) : AV := .sl .fro (xs.map (AV.int .i64))

def doneAt (fs : List Fut) (i : Int) : Bool := decide (0 ≤ i) && (match fs[i.toNat]? with | some f => f.st == 1 || f.st == 2 | none => false)

theorem elem_fut {fs : List Fut} {i : Int} (h0 : 0 ≤ i) (h1 : i < fs.length) : ∃ f : Fut, fs[i.toNat]? = some f ∧ elemAt (fs.map Fut.av) i.toNat = f.av := by
  obtain ⟨f, hf⟩ : ∃ f, fs[i.toNat]? = some f := ⟨_, List.getElem?_eq_getElem (by omega)⟩
  exact ⟨f, hf, by simp [elemAt, hf]⟩
theorem no_fut {fs : List Fut} {i : Int} (h1 : ¬ i < fs.length) : fs[i.toNat]? = none := by
  rw [List.getElem?_eq_none]; omega

theorem f24 (fs : List Fut) (i : Int) : ACall Try.prog 24 [futs fs, .int .i64 i] (· = .bool (doneAt fs i)) := by
  refine a24_of (by simp) ?_
  repeat refine AW.seq ?_
  refine AW.reg ?_
  have hF := True.intro
  repeat (first | refine wD1 ?_ | refine wD2 ?_ | refine wE1 ?_ | refine wE2 ?_ | refine wN ?_ | ((with_reducible show evIs _ (_ :: _) _ _); first | refine wQ ?_ | refine wF ?_ | refine wG ?_ | refine wT ?_ | refine wM ?_ | refine wS ?_ | refine wP ?_))
  clear hF
  repeat refine evDone ?_
  try (show AW _ _ _ _ _)
  repeat refine AW.seq ?_
  refine AW.reg ?_
  by_cases h0 : 0 ≤ i
  · by_cases h1 : i < fs.length
    · obtain ⟨f, hf, he⟩ := elem_fut h0 h1
      have hr : doneAt fs i = (f.st == 1 || f.st == 2) := by simp [doneAt, h0, hf]
      have hl := f.hl
      rw [hr]
      have hF := And.intro (h0) (And.intro (h1) (And.intro (he) (And.intro (Fut.av.eq_1) (hl))))
      repeat (first | refine wD1 ?_ | refine wD2 ?_ | refine wE1 ?_ | refine wE2 ?_ | refine wN ?_ | ((with_reducible show evIs _ (_ :: _) _ _); first | refine wQ ?_ | refine wF ?_ | refine wG ?_ | refine wT ?_ | refine wM ?_ | refine wS ?_ | refine wP ?_))
      clear hF
      repeat refine evDone ?_
      try (show AW _ _ _ _ _)
      refine AW.ret (retI rfl ?_)
      simp [resOk, resP, resV, a24_res, ARes.op, R2, R1, closeOk, closeV]
      by_cases hs : f.st = 1 <;> simp [hs]
    · have hr : doneAt fs i = false := by simp [doneAt, no_fut h1]
      rw [hr]
      have hF := And.intro (h0) (h1)
      repeat (first | refine wD1 ?_ | refine wD2 ?_ | refine wE1 ?_ | refine wE2 ?_ | refine wN ?_ | ((with_reducible show evIs _ (_ :: _) _ _); first | refine wQ ?_ | refine wF ?_ | refine wG ?_ | refine wT ?_ | refine wM ?_ | refine wS ?_ | refine wP ?_))
      clear hF
      repeat refine evDone ?_
      try (show AW _ _ _ _ _)
      refine AW.ret (retI rfl ?_)
      simp [resOk, resP, resV, a24_res, ARes.op, R2, R1, closeOk, closeV]
  · have hr : doneAt fs i = false := by simp [doneAt, h0]
    rw [hr]
    have hF := h0
    repeat (first | refine wD1 ?_ | refine wD2 ?_ | refine wE1 ?_ | refine wE2 ?_ | refine wN ?_ | ((with_reducible show evIs _ (_ :: _) _ _); first | refine wQ ?_ | refine wF ?_ | refine wG ?_ | refine wT ?_ | refine wM ?_ | refine wS ?_ | refine wP ?_))
    clear hF
    repeat refine evDone ?_
    try (show AW _ _ _ _ _)
    refine AW.ret (retI rfl ?_)
    simp [resOk, resP, resV, a24_res, ARes.op, R2, R1, closeOk, closeV]

/-- future.State -/
def stateAt (fs : List Fut) (i : Int) : Int × Bool := if 0 ≤ i then (match fs[i.toNat]? with | some f => (f.st, true) | none => (0, false)) else (0, false)
theorem f33 (fs : List Fut) (i : Int) : ACall Try.prog 33 [futs fs, .int .i64 i] (· = .tup [.int .i64 (stateAt fs i).1, .bool (stateAt fs i).2]) := by
  refine a33_of (by simp) ?_
  repeat refine AW.seq ?_
  refine AW.reg ?_
  have hF := True.intro
  repeat (first | refine wD1 ?_ | refine wD2 ?_ | refine wE1 ?_ | refine wE2 ?_ | refine wN ?_ | ((with_reducible show evIs _ (_ :: _) _ _); first | refine wQ ?_ | refine wF ?_ | refine wG ?_ | refine wT ?_ | refine wM ?_ | refine wS ?_ | refine wP ?_))
  clear hF
  repeat refine evDone ?_
  try (show AW _ _ _ _ _)
  repeat refine AW.seq ?_
  refine AW.reg ?_
  by_cases h0 : 0 ≤ i
  · have h0' : ¬ i < 0 := by omega
    by_cases h1 : i < fs.length
    · have h1' : ¬ (fs.length : Int) ≤ i := by omega
      obtain ⟨f, hf, he⟩ := elem_fut h0 h1
      have hr : stateAt fs i = (f.st, true) := by simp [stateAt, h0, hf]
      have hl := f.hl
      rw [hr]
      have hF := And.intro (h0) (And.intro (h0') (And.intro (h1) (And.intro (h1') (And.intro (he) (And.intro (Fut.av.eq_1) (hl))))))
      repeat (first | refine wD1 ?_ | refine wD2 ?_ | refine wE1 ?_ | refine wE2 ?_ | refine wN ?_ | ((with_reducible show evIs _ (_ :: _) _ _); first | refine wQ ?_ | refine wF ?_ | refine wG ?_ | refine wT ?_ | refine wM ?_ | refine wS ?_ | refine wP ?_))
      clear hF
      repeat refine evDone ?_
      try (show AW _ _ _ _ _)
      repeat refine AW.seq ?_
      refine AW.condF (by simp []) (by simp []) ?_
      refine AW.skip ?_
      show AW _ _ _ _ _
      repeat refine AW.seq ?_
      refine AW.reg ?_
      have hF := And.intro (h0) (And.intro (h0') (And.intro (h1) (And.intro (h1') (And.intro (he) (And.intro (Fut.av.eq_1) (hl))))))
      repeat (first | refine wD1 ?_ | refine wD2 ?_ | refine wE1 ?_ | refine wE2 ?_ | refine wN ?_ | ((with_reducible show evIs _ (_ :: _) _ _); first | refine wQ ?_ | refine wF ?_ | refine wG ?_ | refine wT ?_ | refine wM ?_ | refine wS ?_ | refine wP ?_))
      clear hF
      repeat refine evDone ?_
      try (show AW _ _ _ _ _)
      refine AW.ret (retI rfl ?_)
      simp [a33_res, resOk, resP, resV, ARes.op, R2s, R2, R1s, R1, closeOk, closeV]
    · have h1' : (fs.length : Int) ≤ i := by omega
      have hr : stateAt fs i = (0, false) := by simp [stateAt, h0, no_fut h1]
      rw [hr]
      have hF := And.intro (h0) (And.intro (h0') (And.intro (h1) (h1')))
      repeat (first | refine wD1 ?_ | refine wD2 ?_ | refine wE1 ?_ | refine wE2 ?_ | refine wN ?_ | ((with_reducible show evIs _ (_ :: _) _ _); first | refine wQ ?_ | refine wF ?_ | refine wG ?_ | refine wT ?_ | refine wM ?_ | refine wS ?_ | refine wP ?_))
      clear hF
      repeat refine evDone ?_
      try (show AW _ _ _ _ _)
      repeat refine AW.seq ?_
      refine AW.condT (by simp []) (by simp []) ?_
      repeat refine AW.seq ?_
      refine AW.reg ?_
      have hF := h0
      repeat (first | refine wD1 ?_ | refine wD2 ?_ | refine wE1 ?_ | refine wE2 ?_ | refine wN ?_ | ((with_reducible show evIs _ (_ :: _) _ _); first | refine wQ ?_ | refine wF ?_ | refine wG ?_ | refine wT ?_ | refine wM ?_ | refine wS ?_ | refine wP ?_))
      clear hF
      repeat refine evDone ?_
      try (show AW _ _ _ _ _)
      refine AW.ret (retI rfl ?_)
      simp [a33_res, resOk, resP, resV, ARes.op, R2s, R2, R1s, R1, closeOk, closeV]
  · have h0' : i < 0 := by omega
    have hr : stateAt fs i = (0, false) := by simp [stateAt, h0]
    rw [hr]
    have hF := And.intro (h0) (h0')
    repeat (first | refine wD1 ?_ | refine wD2 ?_ | refine wE1 ?_ | refine wE2 ?_ | refine wN ?_ | ((with_reducible show evIs _ (_ :: _) _ _); first | refine wQ ?_ | refine wF ?_ | refine wG ?_ | refine wT ?_ | refine wM ?_ | refine wS ?_ | refine wP ?_))
    clear hF
    repeat refine evDone ?_
    try (show AW _ _ _ _ _)
    repeat refine AW.seq ?_
    refine AW.condT (by simp []) (by simp []) ?_
    repeat refine AW.seq ?_
    refine AW.reg ?_
    have hF := h0
    repeat (first | refine wD1 ?_ | refine wD2 ?_ | refine wE1 ?_ | refine wE2 ?_ | refine wN ?_ | ((with_reducible show evIs _ (_ :: _) _ _); first | refine wQ ?_ | refine wF ?_ | refine wG ?_ | refine wT ?_ | refine wM ?_ | refine wS ?_ | refine wP ?_))
    clear hF
    repeat refine evDone ?_
    try (show AW _ _ _ _ _)
    refine AW.ret (retI rfl ?_)
    simp [a33_res, resOk, resP, resV, ARes.op, R2s, R2, R1s, R1, closeOk, closeV]

theorem clC_fut (f : Fut) : clC f.av = f.av ∨ True := .inr trivial
theorem fzA_futs (h : Nat → Option Blk) (fs : List Fut) : fzA h (futs fs) = futs fs := rfl
theorem fzA_ints (h : Nat → Option Blk) (xs : List Int) : fzA h (ints xs) = ints xs := rfl

/-- completed -/
theorem f23 (fs : List Fut) (i : Int) : ACall Try.prog 23 [futs fs, .int .i64 i] (· = .bool (doneAt fs i)) := by
  refine a23_of (by simp) ?_
  repeat refine AW.seq ?_
  refine AW.reg ?_
  have hF := True.intro
  repeat (first | refine wD1 ?_ | refine wD2 ?_ | refine wE1 ?_ | refine wE2 ?_ | refine wN ?_ | ((with_reducible show evIs _ (_ :: _) _ _); first | refine wQ ?_ | refine wF ?_ | refine wG ?_ | refine wT ?_ | refine wM ?_ | refine wS ?_ | refine wP ?_))
  clear hF
  repeat refine evDone ?_
  try (show AW _ _ _ _ _)
  repeat refine AW.seq ?_
  refine AW.reg ?_
  have hF := True.intro
  repeat (first | refine wD1 ?_ | refine wD2 ?_ | refine wE1 ?_ | refine wE2 ?_ | refine wN ?_ | ((with_reducible show evIs _ (_ :: _) _ _); first | refine wQ ?_ | refine wF ?_ | refine wG ?_ | refine wT ?_ | refine wM ?_ | refine wS ?_ | refine wP ?_))
  clear hF
  repeat refine evDone ?_
  try (show AW _ _ _ _ _)
  have hF := True.intro
  refine wC (hA := f33 fs i) ?_
  clear hF
  have hF := True.intro
  repeat (first | refine wD1 ?_ | refine wD2 ?_ | refine wE1 ?_ | refine wE2 ?_ | refine wN ?_ | ((with_reducible show evIs _ (_ :: _) _ _); first | refine wQ ?_ | refine wF ?_ | refine wG ?_ | refine wT ?_ | refine wM ?_ | refine wS ?_ | refine wP ?_))
  clear hF
  repeat refine evDone ?_
  try (show AW _ _ _ _ _)
  repeat refine AW.seq ?_
  refine AW.reg ?_
  have hd : doneAt fs i = ((stateAt fs i).2 && ((stateAt fs i).1 == 1 || (stateAt fs i).1 == 2)) := by
    unfold doneAt stateAt
    by_cases h : 0 ≤ i
    · simp only [h, decide_true, Bool.true_and, if_true]
      cases fs[i.toNat]? <;> simp
    · simp [h]
  rw [hd]
  generalize stateAt fs i = p
  obtain ⟨a, b⟩ := p
  cases b
  · have hF := True.intro
    repeat (first | refine wD1 ?_ | refine wD2 ?_ | refine wE1 ?_ | refine wE2 ?_ | refine wN ?_ | ((with_reducible show evIs _ (_ :: _) _ _); first | refine wQ ?_ | refine wF ?_ | refine wG ?_ | refine wT ?_ | refine wM ?_ | refine wS ?_ | refine wP ?_))
    clear hF
    repeat refine evDone ?_
    try (show AW _ _ _ _ _)
    refine AW.ret (retI rfl ?_)
    simp [a23_res, resOk, resP, resV, ARes.op, R2s, R2, R1s, R1, closeOk, closeV]
  · by_cases h1 : a = 1
    · have hF := h1
      repeat (first | refine wD1 ?_ | refine wD2 ?_ | refine wE1 ?_ | refine wE2 ?_ | refine wN ?_ | ((with_reducible show evIs _ (_ :: _) _ _); first | refine wQ ?_ | refine wF ?_ | refine wG ?_ | refine wT ?_ | refine wM ?_ | refine wS ?_ | refine wP ?_))
      clear hF
      repeat refine evDone ?_
      try (show AW _ _ _ _ _)
      refine AW.ret (retI rfl ?_)
      simp [h1, a23_res, resOk, resP, resV, ARes.op, R2s, R2, R1s, R1, closeOk, closeV]
    · have hF := h1
      repeat (first | refine wD1 ?_ | refine wD2 ?_ | refine wE1 ?_ | refine wE2 ?_ | refine wN ?_ | ((with_reducible show evIs _ (_ :: _) _ _); first | refine wQ ?_ | refine wF ?_ | refine wG ?_ | refine wT ?_ | refine wM ?_ | refine wS ?_ | refine wP ?_))
      clear hF
      repeat refine evDone ?_
      try (show AW _ _ _ _ _)
      refine AW.ret (retI rfl ?_)
      simp [h1, a23_res, resOk, resP, resV, ARes.op, R2s, R2, R1s, R1, closeOk, closeV]

end Go.Proofs.Ytnjdjahcepakgaa

set_option linter.unusedSimpArgs false
set_option linter.unusedVariables false
set_option maxHeartbeats 4000000
namespace Go.Proofs.Ytnjdjahcepakgaa
open Go Go.Amb Go.IntWalk

/-- The first place at which p holds, or -1. -/
def idx (xs : List Int) (p : Int → Bool) : Int := match xs.findIdx? p with | some k => k | none => -1

theorem idx_at {xs : List Int} {p : Int → Bool} {i : Nat} {x : Int} (hno : ∀ j, j < i → ∀ x, xs[j]? = some x → p x = false) (hx : xs[i]? = some x) (hp : p x = true) : idx xs p = i := by
  have : xs.findIdx? p = some i := by
    rw [List.findIdx?_eq_some_iff_getElem]
    obtain ⟨h, e⟩ := List.getElem?_eq_some_iff.1 hx
    refine ⟨h, by rw [e]; exact hp, fun j hj => ?_⟩
    have hj' : j < xs.length := by omega
    rw [hno j hj _ (List.getElem?_eq_getElem hj')]
    simp
  simp [idx, this]
theorem idx_none {xs : List Int} {p : Int → Bool} (hno : ∀ j, j < xs.length → ∀ x, xs[j]? = some x → p x = false) : idx xs p = -1 := by
  have : xs.findIdx? p = none := by
    rw [List.findIdx?_eq_none_iff]
    intro x hx
    obtain ⟨j, hj, rfl⟩ := List.getElem_of_mem hx
    exact hno j hj _ (List.getElem?_eq_getElem hj)
  simp [idx, this]

theorem f22 (fs : List Fut) (i : Int) : ACall Try.prog 22 [.int .i64 i, .fptr (futs fs) 0] (· = .bool (doneAt fs i)) := by
  refine a22_of (by simp) ?_
  repeat refine AW.seq ?_
  refine AW.reg ?_
  have hF := True.intro
  repeat (first | refine wD1 ?_ | refine wD2 ?_ | refine wE1 ?_ | refine wE2 ?_ | refine wN ?_ | ((with_reducible show evIs _ (_ :: _) _ _); first | refine wQ ?_ | refine wF ?_ | refine wG ?_ | refine wT ?_ | refine wM ?_ | refine wS ?_ | refine wP ?_))
  clear hF
  repeat refine evDone ?_
  try (show AW _ _ _ _ _)
  repeat refine AW.seq ?_
  refine AW.reg ?_
  have hF := True.intro
  repeat (first | refine wD1 ?_ | refine wD2 ?_ | refine wE1 ?_ | refine wE2 ?_ | refine wN ?_ | ((with_reducible show evIs _ (_ :: _) _ _); first | refine wQ ?_ | refine wF ?_ | refine wG ?_ | refine wT ?_ | refine wM ?_ | refine wS ?_ | refine wP ?_))
  clear hF
  repeat refine evDone ?_
  try (show AW _ _ _ _ _)
  have hF := True.intro
  refine wC (hA := f23 fs i) ?_
  clear hF
  have hF := True.intro
  repeat (first | refine wD1 ?_ | refine wD2 ?_ | refine wE1 ?_ | refine wE2 ?_ | refine wN ?_ | ((with_reducible show evIs _ (_ :: _) _ _); first | refine wQ ?_ | refine wF ?_ | refine wG ?_ | refine wT ?_ | refine wM ?_ | refine wS ?_ | refine wP ?_))
  clear hF
  repeat refine evDone ?_
  try (show AW _ _ _ _ _)
  refine AW.ret (retI rfl ?_)
  simp [a22_res, resOk, resP, resV, ARes.op, R2s, R2, R1s, R1, closeOk, closeV]
theorem f26 (fs : List Fut) (i : Int) : ACall Try.prog 26 [.int .i64 i, .fptr (futs fs) 0] (· = .bool (!doneAt fs i)) := by
  refine a26_of (by simp) ?_
  repeat refine AW.seq ?_
  refine AW.reg ?_
  have hF := True.intro
  repeat (first | refine wD1 ?_ | refine wD2 ?_ | refine wE1 ?_ | refine wE2 ?_ | refine wN ?_ | ((with_reducible show evIs _ (_ :: _) _ _); first | refine wQ ?_ | refine wF ?_ | refine wG ?_ | refine wT ?_ | refine wM ?_ | refine wS ?_ | refine wP ?_))
  clear hF
  repeat refine evDone ?_
  try (show AW _ _ _ _ _)
  repeat refine AW.seq ?_
  refine AW.reg ?_
  have hF := True.intro
  repeat (first | refine wD1 ?_ | refine wD2 ?_ | refine wE1 ?_ | refine wE2 ?_ | refine wN ?_ | ((with_reducible show evIs _ (_ :: _) _ _); first | refine wQ ?_ | refine wF ?_ | refine wG ?_ | refine wT ?_ | refine wM ?_ | refine wS ?_ | refine wP ?_))
  clear hF
  repeat refine evDone ?_
  try (show AW _ _ _ _ _)
  have hF := True.intro
  refine wC (hA := f23 fs i) ?_
  clear hF
  have hF := True.intro
  repeat (first | refine wD1 ?_ | refine wD2 ?_ | refine wE1 ?_ | refine wE2 ?_ | refine wN ?_ | ((with_reducible show evIs _ (_ :: _) _ _); first | refine wQ ?_ | refine wF ?_ | refine wG ?_ | refine wT ?_ | refine wM ?_ | refine wS ?_ | refine wP ?_))
  clear hF
  repeat refine evDone ?_
  try (show AW _ _ _ _ _)
  refine AW.ret (retI rfl ?_)
  simp [a26_res, resOk, resP, resV, ARes.op, R2s, R2, R1s, R1, closeOk, closeV]

theorem f21 (xs : List Int) (hlen : xs.length ≤ 9223372036854775807) (g : Nat) (caps : List AV) (p : Int → Bool) (hp : ∀ x ∈ xs, ACall Try.prog g (.int .i64 x :: caps) (· = .bool (p x))) (hcap : ∀ h, caps.map (fzA h) = caps) (hok : okAs noF noF caps) :
    ACall Try.prog 21 [ints xs, .fn g caps] (· = .int .i64 (idx xs p)) := by
  refine a21_of (by simp) ?_
  repeat refine AW.seq ?_
  refine AW.reg ?_
  have hF := True.intro
  repeat (first | refine wD1 ?_ | refine wD2 ?_ | refine wE1 ?_ | refine wE2 ?_ | refine wN ?_ | ((with_reducible show evIs _ (_ :: _) _ _); first | refine wQ ?_ | refine wF ?_ | refine wG ?_ | refine wT ?_ | refine wM ?_ | refine wS ?_ | refine wP ?_))
  clear hF
  repeat refine evDone ?_
  try (show AW _ _ _ _ _)
  repeat refine AW.seq ?_
  refine AW.reg ?_
  have hF := True.intro
  repeat (first | refine wD1 ?_ | refine wD2 ?_ | refine wE1 ?_ | refine wE2 ?_ | refine wN ?_ | ((with_reducible show evIs _ (_ :: _) _ _); first | refine wQ ?_ | refine wF ?_ | refine wG ?_ | refine wT ?_ | refine wM ?_ | refine wS ?_ | refine wP ?_))
  clear hF
  repeat refine evDone ?_
  try (show AW _ _ _ _ _)
  repeat refine AW.seq ?_
  refine AW.block ?_
  refine AW.loop (fun i : Nat => i ≤ xs.length ∧ ∀ j, j < i → ∀ x, xs[j]? = some x → p x = false) (fun i : Nat => mkS [(0, ints xs), (1, .fn g caps), (7, .int .i64 xs.length), (8, .int .i64 i)] [] 0) (fun i => xs.length - i) 0 ⟨by omega, fun j hj => absurd hj (by omega)⟩ ?_ ?_
  · refine Fit.mk _ _ _ (by simp [conv2, conv]) (by simp [heapFit, newEmp, conv2s, conv2, convs_refl, convs, conv]) ?_
    simp
  · rintro i ⟨hi, hno⟩
    repeat refine AW.seq ?_
    refine AW.reg ?_
    by_cases hlt : i < xs.length
    · obtain ⟨x, hx⟩ : ∃ x, xs[i]? = some x := ⟨_, List.getElem?_eq_getElem hlt⟩
      have he : elemAt (xs.map (AV.int .i64)) i = .int .i64 x := by simp [elemAt, hx]
      have hxm : x ∈ xs := List.mem_of_getElem? hx
      have hF := hlt
      repeat (first | refine wD1 ?_ | refine wD2 ?_ | refine wE1 ?_ | refine wE2 ?_ | refine wN ?_ | ((with_reducible show evIs _ (_ :: _) _ _); first | refine wQ ?_ | refine wF ?_ | refine wG ?_ | refine wT ?_ | refine wM ?_ | refine wS ?_ | refine wP ?_))
      clear hF
      repeat refine evDone ?_
      try (show AW _ _ _ _ _)
      repeat refine AW.seq ?_
      refine AW.condT (by simp []) (by simp []) ?_
      refine AW.skip ?_
      show AW _ _ _ _ _
      refine AW.seq (AW.block ?_)
      repeat refine AW.seq ?_
      refine AW.reg ?_
      have hF := hlt
      repeat (first | refine wD1 ?_ | refine wD2 ?_ | refine wE1 ?_ | refine wE2 ?_ | refine wN ?_ | ((with_reducible show evIs _ (_ :: _) _ _); first | refine wQ ?_ | refine wF ?_ | refine wG ?_ | refine wT ?_ | refine wM ?_ | refine wS ?_ | refine wP ?_))
      clear hF
      repeat refine evDone ?_
      try (show AW _ _ _ _ _)
      repeat refine AW.seq ?_
      refine AW.reg ?_
      have hF := And.intro (hlt) (he)
      repeat (first | refine wD1 ?_ | refine wD2 ?_ | refine wE1 ?_ | refine wE2 ?_ | refine wN ?_ | ((with_reducible show evIs _ (_ :: _) _ _); first | refine wQ ?_ | refine wF ?_ | refine wG ?_ | refine wT ?_ | refine wM ?_ | refine wS ?_ | refine wP ?_))
      clear hF
      repeat refine evDone ?_
      try (show AW _ _ _ _ _)
      have hF := And.intro (hcap) (hok)
      refine wV (hA := hp x hxm) ?_
      clear hF
      have hF := True.intro
      repeat (first | refine wD1 ?_ | refine wD2 ?_ | refine wE1 ?_ | refine wE2 ?_ | refine wN ?_ | ((with_reducible show evIs _ (_ :: _) _ _); first | refine wQ ?_ | refine wF ?_ | refine wG ?_ | refine wT ?_ | refine wM ?_ | refine wS ?_ | refine wP ?_))
      clear hF
      repeat refine evDone ?_
      try (show AW _ _ _ _ _)
      cases hpx : p x
      · repeat refine AW.seq ?_
        refine AW.condF (by simp [hpx]) (by simp [hpx]) ?_
        refine AW.skip ?_
        show AW _ _ _ _ _
        refine AW.reg ?_
        have hw : IntKind.i64.wrap ((i : Int) + 1) = (i : Int) + 1 := i64_in _ ⟨by omega, by omega⟩
        have hF := hw
        repeat (first | refine wD1 ?_ | refine wD2 ?_ | refine wE1 ?_ | refine wE2 ?_ | refine wN ?_ | ((with_reducible show evIs _ (_ :: _) _ _); first | refine wQ ?_ | refine wF ?_ | refine wG ?_ | refine wT ?_ | refine wM ?_ | refine wS ?_ | refine wP ?_))
        clear hF
        repeat refine evDone ?_
        try (show AW _ _ _ _ _)
        refine ⟨i + 1, ⟨by omega, ?_⟩, by omega, ?_⟩
        · intro j hj y hy
          by_cases hji : j = i
          · subst hji; rw [hx] at hy; injection hy with hy; subst hy; exact hpx
          · exact hno j (by omega) y hy
        · refine Fit.mk _ _ _ (by simp [hw, conv2, conv]) (by simp [hw, heapFit, newEmp, conv2s, conv2, convs_refl, convs, conv]) ?_
          simp
      · repeat refine AW.seq ?_
        refine AW.condT (by simp [hpx]) (by simp [hpx]) ?_
        repeat refine AW.seq ?_
        refine AW.reg ?_
        have hF := True.intro
        repeat (first | refine wD1 ?_ | refine wD2 ?_ | refine wE1 ?_ | refine wE2 ?_ | refine wN ?_ | ((with_reducible show evIs _ (_ :: _) _ _); first | refine wQ ?_ | refine wF ?_ | refine wG ?_ | refine wT ?_ | refine wM ?_ | refine wS ?_ | refine wP ?_))
        clear hF
        repeat refine evDone ?_
        try (show AW _ _ _ _ _)
        rw [idx_at hno hx hpx]
        refine AW.ret (retI rfl ?_)
        simp [a21_res, resOk, resP, resV, ARes.op, R2s, R2, R1s, R1, closeOk, closeV]
    · have hlt' : ¬ (i : Int) < xs.length := by omega
      have hF := And.intro (hlt) (hlt')
      repeat (first | refine wD1 ?_ | refine wD2 ?_ | refine wE1 ?_ | refine wE2 ?_ | refine wN ?_ | ((with_reducible show evIs _ (_ :: _) _ _); first | refine wQ ?_ | refine wF ?_ | refine wG ?_ | refine wT ?_ | refine wM ?_ | refine wS ?_ | refine wP ?_))
      clear hF
      repeat refine evDone ?_
      try (show AW _ _ _ _ _)
      repeat refine AW.seq ?_
      refine AW.condF (by simp []) (by simp []) ?_
      refine AW.exit ?_
      show AW _ _ _ _ _
      repeat refine AW.seq ?_
      refine AW.reg ?_
      have hF := True.intro
      repeat (first | refine wD1 ?_ | refine wD2 ?_ | refine wE1 ?_ | refine wE2 ?_ | refine wN ?_ | ((with_reducible show evIs _ (_ :: _) _ _); first | refine wQ ?_ | refine wF ?_ | refine wG ?_ | refine wT ?_ | refine wM ?_ | refine wS ?_ | refine wP ?_))
      clear hF
      repeat refine evDone ?_
      try (show AW _ _ _ _ _)
      rw [idx_none (fun j hj => hno j (by omega))]
      refine AW.ret (retI rfl ?_)
      simp [a21_res, resOk, resP, resV, ARes.op, R2s, R2, R1s, R1, closeOk, closeV]
end Go.Proofs.Ytnjdjahcepakgaa

set_option linter.unusedSimpArgs false
set_option linter.unusedVariables false
set_option maxHeartbeats 4000000
namespace Go.Proofs.Ytnjdjahcepakgaa
open Go Go.Amb Go.IntWalk

def readyR (xs : List Int) (p : Int → Bool) : Int × Bool := match xs.findIdx? p with | some k => (k, true) | none => (0, false)

theorem f8 (fs : List Fut) (xs : List Int) (hlen : xs.length ≤ 9223372036854775807) : ACall Try.prog 8 [futs fs, ints xs] (· = .tup [.int .i64 (readyR xs (doneAt fs)).1, .bool (readyR xs (doneAt fs)).2]) := by
  refine a8_of (by simp) ?_
  repeat refine AW.seq ?_
  refine AW.reg ?_
  have hF := True.intro
  repeat (first | refine wD1 ?_ | refine wD2 ?_ | refine wE1 ?_ | refine wE2 ?_ | refine wN ?_ | ((with_reducible show evIs _ (_ :: _) _ _); first | refine wQ ?_ | refine wF ?_ | refine wG ?_ | refine wT ?_ | refine wM ?_ | refine wS ?_ | refine wP ?_))
  clear hF
  repeat refine evDone ?_
  try (show AW _ _ _ _ _)
  repeat refine AW.seq ?_
  refine AW.reg ?_
  have hF := True.intro
  repeat (first | refine wD1 ?_ | refine wD2 ?_ | refine wE1 ?_ | refine wE2 ?_ | refine wN ?_ | ((with_reducible show evIs _ (_ :: _) _ _); first | refine wQ ?_ | refine wF ?_ | refine wG ?_ | refine wT ?_ | refine wM ?_ | refine wS ?_ | refine wP ?_))
  clear hF
  repeat refine evDone ?_
  try (show AW _ _ _ _ _)
  refine evC rfl rfl rfl rfl (by conv => lhs; (try simp [elemAt, mapA])) (by conv => lhs; (try simp [elemAt, mapA, fzB, fzQ])) (f21 xs hlen 22 [.fptr (futs fs) 0] (doneAt fs) (fun x _ => f22 fs x) (by simp [mapA]) (by simp)) (by conv => lhs; (try simp [elemAt, mapA, fzB, fzQ])) ?_ ?_ ?_
  (focus (simp [elemAt, mapA]; done))
  (focus (simp [elemAt, mapA, okB, okQ, noF, sc, scs]; done))
  have hF := True.intro
  repeat (first | refine wD1 ?_ | refine wD2 ?_ | refine wE1 ?_ | refine wE2 ?_ | refine wN ?_ | ((with_reducible show evIs _ (_ :: _) _ _); first | refine wQ ?_ | refine wF ?_ | refine wG ?_ | refine wT ?_ | refine wM ?_ | refine wS ?_ | refine wP ?_))
  clear hF
  repeat refine evDone ?_
  try (show AW _ _ _ _ _)
  repeat refine AW.seq ?_
  refine AW.reg ?_
  have hr : readyR xs (doneAt fs) = (if idx xs (doneAt fs) < 0 then 0 else idx xs (doneAt fs), decide (idx xs (doneAt fs) ≥ 0)) := by
    unfold readyR idx
    cases xs.findIdx? (doneAt fs) with
    | none => simp
    | some k => simp; omega
  rw [hr]
  generalize idx xs (doneAt fs) = k
  by_cases hk : k < 0
  · have hk' : ¬ 0 ≤ k := by omega
    have hF := And.intro (hk) (hk')
    repeat (first | refine wD1 ?_ | refine wD2 ?_ | refine wE1 ?_ | refine wE2 ?_ | refine wN ?_ | ((with_reducible show evIs _ (_ :: _) _ _); first | refine wQ ?_ | refine wF ?_ | refine wG ?_ | refine wT ?_ | refine wM ?_ | refine wS ?_ | refine wP ?_))
    clear hF
    repeat refine evDone ?_
    try (show AW _ _ _ _ _)
    refine AW.ret (retI rfl ?_)
    simp [hk, hk', a8_res, resOk, resP, resV, ARes.op, R2s, R2, R1s, R1, closeOk, closeV]
  · have hk' : 0 ≤ k := by omega
    have hF := And.intro (hk) (hk')
    repeat (first | refine wD1 ?_ | refine wD2 ?_ | refine wE1 ?_ | refine wE2 ?_ | refine wN ?_ | ((with_reducible show evIs _ (_ :: _) _ _); first | refine wQ ?_ | refine wF ?_ | refine wG ?_ | refine wT ?_ | refine wM ?_ | refine wS ?_ | refine wP ?_))
    clear hF
    repeat refine evDone ?_
    try (show AW _ _ _ _ _)
    refine AW.ret (retI rfl ?_)
    simp [hk, hk', a8_res, resOk, resP, resV, ARes.op, R2s, R2, R1s, R1, closeOk, closeV]


def allR (xs : List Int) (p : Int → Bool) : Bool := xs.all p

theorem f25 (xs : List Int) (hlen : xs.length ≤ 9223372036854775807) (g : Nat) (caps : List AV) (p : Int → Bool) (hp : ∀ x ∈ xs, ACall Try.prog g (.int .i64 x :: caps) (· = .bool (p x))) (hcap : ∀ h, caps.map (fzA h) = caps) (hok : okAs noF noF caps) :
    ACall Try.prog 25 [ints xs, .fn g caps] (· = .bool (decide (0 ≤ idx xs p))) := by
  refine a25_of (by simp) ?_
  repeat refine AW.seq ?_
  refine AW.reg ?_
  have hF := True.intro
  repeat (first | refine wD1 ?_ | refine wD2 ?_ | refine wE1 ?_ | refine wE2 ?_ | refine wN ?_ | ((with_reducible show evIs _ (_ :: _) _ _); first | refine wQ ?_ | refine wF ?_ | refine wG ?_ | refine wT ?_ | refine wM ?_ | refine wS ?_ | refine wP ?_))
  clear hF
  repeat refine evDone ?_
  try (show AW _ _ _ _ _)
  repeat refine AW.seq ?_
  refine AW.reg ?_
  have hF := True.intro
  repeat (first | refine wD1 ?_ | refine wD2 ?_ | refine wE1 ?_ | refine wE2 ?_ | refine wN ?_ | ((with_reducible show evIs _ (_ :: _) _ _); first | refine wQ ?_ | refine wF ?_ | refine wG ?_ | refine wT ?_ | refine wM ?_ | refine wS ?_ | refine wP ?_))
  clear hF
  repeat refine evDone ?_
  try (show AW _ _ _ _ _)
  have hF := And.intro (hcap) (hok)
  refine wC (hA := f21 xs hlen g caps p hp hcap hok) ?_
  clear hF
  have hF := True.intro
  repeat (first | refine wD1 ?_ | refine wD2 ?_ | refine wE1 ?_ | refine wE2 ?_ | refine wN ?_ | ((with_reducible show evIs _ (_ :: _) _ _); first | refine wQ ?_ | refine wF ?_ | refine wG ?_ | refine wT ?_ | refine wM ?_ | refine wS ?_ | refine wP ?_))
  clear hF
  repeat refine evDone ?_
  try (show AW _ _ _ _ _)
  refine AW.ret (retI rfl ?_)
  simp [a25_res, resOk, resP, resV, ARes.op, R2s, R2, R1s, R1, closeOk, closeV]

theorem f10 (fs : List Fut) (xs : List Int) (hlen : xs.length ≤ 9223372036854775807) : ACall Try.prog 10 [futs fs, ints xs] (· = .bool (allR xs (doneAt fs))) := by
  refine a10_of (by simp) ?_
  repeat refine AW.seq ?_
  refine AW.reg ?_
  have hF := True.intro
  repeat (first | refine wD1 ?_ | refine wD2 ?_ | refine wE1 ?_ | refine wE2 ?_ | refine wN ?_ | ((with_reducible show evIs _ (_ :: _) _ _); first | refine wQ ?_ | refine wF ?_ | refine wG ?_ | refine wT ?_ | refine wM ?_ | refine wS ?_ | refine wP ?_))
  clear hF
  repeat refine evDone ?_
  try (show AW _ _ _ _ _)
  repeat refine AW.seq ?_
  refine AW.reg ?_
  have hF := True.intro
  repeat (first | refine wD1 ?_ | refine wD2 ?_ | refine wE1 ?_ | refine wE2 ?_ | refine wN ?_ | ((with_reducible show evIs _ (_ :: _) _ _); first | refine wQ ?_ | refine wF ?_ | refine wG ?_ | refine wT ?_ | refine wM ?_ | refine wS ?_ | refine wP ?_))
  clear hF
  repeat refine evDone ?_
  try (show AW _ _ _ _ _)
  refine evC rfl rfl rfl rfl (by conv => lhs; (try simp [elemAt, mapA])) (by conv => lhs; (try simp [elemAt, mapA, fzB, fzQ])) (f25 xs hlen 26 [.fptr (futs fs) 0] (fun x => !doneAt fs x) (fun x _ => f26 fs x) (by simp [mapA]) (by simp)) (by conv => lhs; (try simp [elemAt, mapA, fzB, fzQ])) ?_ ?_ ?_
  (focus (simp [elemAt, mapA]; done))
  (focus (simp [elemAt, mapA, okB, okQ, noF, sc, scs]; done))
  have hF := True.intro
  repeat (first | refine wD1 ?_ | refine wD2 ?_ | refine wE1 ?_ | refine wE2 ?_ | refine wN ?_ | ((with_reducible show evIs _ (_ :: _) _ _); first | refine wQ ?_ | refine wF ?_ | refine wG ?_ | refine wT ?_ | refine wM ?_ | refine wS ?_ | refine wP ?_))
  clear hF
  repeat refine evDone ?_
  try (show AW _ _ _ _ _)
  have hr : allR xs (doneAt fs) = !decide (0 ≤ idx xs fun x => !doneAt fs x) := by
    unfold allR idx
    cases h : xs.findIdx? (fun x => !doneAt fs x) with
    | none =>
      rw [List.findIdx?_eq_none_iff] at h
      simp only [show ¬ (0 : Int) ≤ -1 by omega, decide_false, Bool.not_false, List.all_eq_true]
      intro x hx
      simpa using h x hx
    | some k =>
      rw [List.findIdx?_eq_some_iff_getElem] at h
      obtain ⟨hk, h1, _⟩ := h
      simp only [show (0 : Int) ≤ (k : Int) by omega, decide_true, Bool.not_true]
      rw [List.all_eq_false]
      exact ⟨xs[k], List.getElem_mem hk, by simpa using h1⟩
  rw [hr]
  refine AW.ret (retI rfl ?_)
  simp [a10_res, resOk, resP, resV, ARes.op, R2s, R2, R1s, R1, closeOk, closeV]

theorem readyR_at {xs : List Int} {p : Int → Bool} {i : Nat} {x : Int} (hno : ∀ j, j < i → ∀ x, xs[j]? = some x → p x = false) (hx : xs[i]? = some x) (hp : p x = true) : readyR xs p = ((i : Int), true) := by
  have h := idx_at hno hx hp
  unfold idx at h
  unfold readyR
  cases hf : xs.findIdx? p with
  | none => rw [hf] at h; simp at h
  | some k => rw [hf] at h; simp at h; simp [h]
theorem readyR_none {xs : List Int} {p : Int → Bool} (hno : ∀ j, j < xs.length → ∀ x, xs[j]? = some x → p x = false) : readyR xs p = (0, false) := by
  have h := idx_none hno
  unfold idx at h
  unfold readyR
  cases hf : xs.findIdx? p with
  | none => rfl
  | some k => rw [hf] at h; simp at h

theorem f9 (fs : List Fut) (xs : List Int) (hlen : xs.length ≤ 9223372036854775807) : ACall Try.prog 9 [futs fs, ints xs] (· = .tup [.int .i64 (readyR xs (doneAt fs)).1, .bool (readyR xs (doneAt fs)).2]) := by
  refine a9_of (by simp) ?_
  repeat refine AW.seq ?_
  refine AW.reg ?_
  have hF := True.intro
  repeat (first | refine wD1 ?_ | refine wD2 ?_ | refine wE1 ?_ | refine wE2 ?_ | refine wN ?_ | ((with_reducible show evIs _ (_ :: _) _ _); first | refine wQ ?_ | refine wF ?_ | refine wG ?_ | refine wT ?_ | refine wM ?_ | refine wS ?_ | refine wP ?_))
  clear hF
  repeat refine evDone ?_
  try (show AW _ _ _ _ _)
  repeat refine AW.seq ?_
  refine AW.reg ?_
  have hF := True.intro
  repeat (first | refine wD1 ?_ | refine wD2 ?_ | refine wE1 ?_ | refine wE2 ?_ | refine wN ?_ | ((with_reducible show evIs _ (_ :: _) _ _); first | refine wQ ?_ | refine wF ?_ | refine wG ?_ | refine wT ?_ | refine wM ?_ | refine wS ?_ | refine wP ?_))
  clear hF
  repeat refine evDone ?_
  try (show AW _ _ _ _ _)
  repeat refine AW.seq ?_
  refine AW.block ?_
  refine AW.loop (fun i : Nat => i ≤ xs.length ∧ ∀ j, j < i → ∀ x, xs[j]? = some x → doneAt fs x = false) (fun i : Nat => mkS [(0, futs fs), (1, ints xs), (6, .int .i64 i)] [] 0) (fun i => xs.length - i) 0 ⟨by omega, fun j hj => absurd hj (by omega)⟩ ?_ ?_
  · refine Fit.mk _ _ _ (by simp [conv2, conv]) (by simp [heapFit, newEmp, conv2s, conv2, convs_refl, convs, conv]) ?_
    simp
  · rintro i ⟨hi, hno⟩
    repeat refine AW.seq ?_
    refine AW.reg ?_
    by_cases hlt : i < xs.length
    · obtain ⟨x, hx⟩ : ∃ x, xs[i]? = some x := ⟨_, List.getElem?_eq_getElem hlt⟩
      have he : elemAt (xs.map (AV.int .i64)) i = .int .i64 x := by simp [elemAt, hx]
      have hF := hlt
      repeat (first | refine wD1 ?_ | refine wD2 ?_ | refine wE1 ?_ | refine wE2 ?_ | refine wN ?_ | ((with_reducible show evIs _ (_ :: _) _ _); first | refine wQ ?_ | refine wF ?_ | refine wG ?_ | refine wT ?_ | refine wM ?_ | refine wS ?_ | refine wP ?_))
      clear hF
      repeat refine evDone ?_
      try (show AW _ _ _ _ _)
      repeat refine AW.seq ?_
      refine AW.condT (by simp []) (by simp []) ?_
      refine AW.skip ?_
      show AW _ _ _ _ _
      refine AW.seq (AW.block ?_)
      repeat refine AW.seq ?_
      refine AW.reg ?_
      have hF := And.intro (hlt) (he)
      repeat (first | refine wD1 ?_ | refine wD2 ?_ | refine wE1 ?_ | refine wE2 ?_ | refine wN ?_ | ((with_reducible show evIs _ (_ :: _) _ _); first | refine wQ ?_ | refine wF ?_ | refine wG ?_ | refine wT ?_ | refine wM ?_ | refine wS ?_ | refine wP ?_))
      clear hF
      repeat refine evDone ?_
      try (show AW _ _ _ _ _)
      have hF := True.intro
      refine wC (hA := f24 fs x) ?_
      clear hF
      have hF := True.intro
      repeat (first | refine wD1 ?_ | refine wD2 ?_ | refine wE1 ?_ | refine wE2 ?_ | refine wN ?_ | ((with_reducible show evIs _ (_ :: _) _ _); first | refine wQ ?_ | refine wF ?_ | refine wG ?_ | refine wT ?_ | refine wM ?_ | refine wS ?_ | refine wP ?_))
      clear hF
      repeat refine evDone ?_
      try (show AW _ _ _ _ _)
      cases hpx : doneAt fs x
      · repeat refine AW.seq ?_
        refine AW.condF (by simp [hpx]) (by simp [hpx]) ?_
        refine AW.skip ?_
        show AW _ _ _ _ _
        refine AW.reg ?_
        have hw : IntKind.i64.wrap ((i : Int) + 1) = (i : Int) + 1 := i64_in _ ⟨by omega, by omega⟩
        have hF := hw
        repeat (first | refine wD1 ?_ | refine wD2 ?_ | refine wE1 ?_ | refine wE2 ?_ | refine wN ?_ | ((with_reducible show evIs _ (_ :: _) _ _); first | refine wQ ?_ | refine wF ?_ | refine wG ?_ | refine wT ?_ | refine wM ?_ | refine wS ?_ | refine wP ?_))
        clear hF
        repeat refine evDone ?_
        try (show AW _ _ _ _ _)
        refine ⟨i + 1, ⟨by omega, ?_⟩, by omega, ?_⟩
        · intro j hj y hy
          by_cases hji : j = i
          · subst hji; rw [hx] at hy; injection hy with hy; subst hy; exact hpx
          · exact hno j (by omega) y hy
        · refine Fit.mk _ _ _ (by simp [hw, conv2, conv]) (by simp [hw, heapFit, newEmp, conv2s, conv2, convs_refl, convs, conv]) ?_
          simp
      · repeat refine AW.seq ?_
        refine AW.condT (by simp [hpx]) (by simp [hpx]) ?_
        repeat refine AW.seq ?_
        refine AW.reg ?_
        have hF := True.intro
        repeat (first | refine wD1 ?_ | refine wD2 ?_ | refine wE1 ?_ | refine wE2 ?_ | refine wN ?_ | ((with_reducible show evIs _ (_ :: _) _ _); first | refine wQ ?_ | refine wF ?_ | refine wG ?_ | refine wT ?_ | refine wM ?_ | refine wS ?_ | refine wP ?_))
        clear hF
        repeat refine evDone ?_
        try (show AW _ _ _ _ _)
        rw [readyR_at hno hx hpx]
        refine AW.ret (retI rfl ?_)
        simp [a9_res, resOk, resP, resV, ARes.op, R2s, R2, R1s, R1, closeOk, closeV]
    · have hlt' : ¬ (i : Int) < xs.length := by omega
      have hF := And.intro (hlt) (hlt')
      repeat (first | refine wD1 ?_ | refine wD2 ?_ | refine wE1 ?_ | refine wE2 ?_ | refine wN ?_ | ((with_reducible show evIs _ (_ :: _) _ _); first | refine wQ ?_ | refine wF ?_ | refine wG ?_ | refine wT ?_ | refine wM ?_ | refine wS ?_ | refine wP ?_))
      clear hF
      repeat refine evDone ?_
      try (show AW _ _ _ _ _)
      repeat refine AW.seq ?_
      refine AW.condF (by simp []) (by simp []) ?_
      refine AW.exit ?_
      show AW _ _ _ _ _
      repeat refine AW.seq ?_
      refine AW.reg ?_
      have hF := True.intro
      repeat (first | refine wD1 ?_ | refine wD2 ?_ | refine wE1 ?_ | refine wE2 ?_ | refine wN ?_ | ((with_reducible show evIs _ (_ :: _) _ _); first | refine wQ ?_ | refine wF ?_ | refine wG ?_ | refine wT ?_ | refine wM ?_ | refine wS ?_ | refine wP ?_))
      clear hF
      repeat refine evDone ?_
      try (show AW _ _ _ _ _)
      rw [readyR_none (fun j hj => hno j (by omega))]
      refine AW.ret (retI rfl ?_)
      simp [a9_res, resOk, resP, resV, ARes.op, R2s, R2, R1s, R1, closeOk, closeV]

theorem f11 (fs : List Fut) (xs : List Int) (hlen : xs.length ≤ 9223372036854775807) : ACall Try.prog 11 [futs fs, ints xs] (· = .bool (allR xs (doneAt fs))) := by
  refine a11_of (by simp) ?_
  repeat refine AW.seq ?_
  refine AW.reg ?_
  have hF := True.intro
  repeat (first | refine wD1 ?_ | refine wD2 ?_ | refine wE1 ?_ | refine wE2 ?_ | refine wN ?_ | ((with_reducible show evIs _ (_ :: _) _ _); first | refine wQ ?_ | refine wF ?_ | refine wG ?_ | refine wT ?_ | refine wM ?_ | refine wS ?_ | refine wP ?_))
  clear hF
  repeat refine evDone ?_
  try (show AW _ _ _ _ _)
  repeat refine AW.seq ?_
  refine AW.reg ?_
  have hF := True.intro
  repeat (first | refine wD1 ?_ | refine wD2 ?_ | refine wE1 ?_ | refine wE2 ?_ | refine wN ?_ | ((with_reducible show evIs _ (_ :: _) _ _); first | refine wQ ?_ | refine wF ?_ | refine wG ?_ | refine wT ?_ | refine wM ?_ | refine wS ?_ | refine wP ?_))
  clear hF
  repeat refine evDone ?_
  try (show AW _ _ _ _ _)
  repeat refine AW.seq ?_
  refine AW.block ?_
  refine AW.loop (fun i : Nat => i ≤ xs.length ∧ ∀ j, j < i → ∀ x, xs[j]? = some x → doneAt fs x = true) (fun i : Nat => mkS [(0, futs fs), (1, ints xs), (5, .int .i64 i)] [] 0) (fun i => xs.length - i) 0 ⟨by omega, fun j hj => absurd hj (by omega)⟩ ?_ ?_
  · refine Fit.mk _ _ _ (by simp [conv2, conv]) (by simp [heapFit, newEmp, conv2s, conv2, convs_refl, convs, conv]) ?_
    simp
  · rintro i ⟨hi, hno⟩
    repeat refine AW.seq ?_
    refine AW.reg ?_
    by_cases hlt : i < xs.length
    · obtain ⟨x, hx⟩ : ∃ x, xs[i]? = some x := ⟨_, List.getElem?_eq_getElem hlt⟩
      have he : elemAt (xs.map (AV.int .i64)) i = .int .i64 x := by simp [elemAt, hx]
      have hF := hlt
      repeat (first | refine wD1 ?_ | refine wD2 ?_ | refine wE1 ?_ | refine wE2 ?_ | refine wN ?_ | ((with_reducible show evIs _ (_ :: _) _ _); first | refine wQ ?_ | refine wF ?_ | refine wG ?_ | refine wT ?_ | refine wM ?_ | refine wS ?_ | refine wP ?_))
      clear hF
      repeat refine evDone ?_
      try (show AW _ _ _ _ _)
      repeat refine AW.seq ?_
      refine AW.condT (by simp []) (by simp []) ?_
      refine AW.skip ?_
      show AW _ _ _ _ _
      refine AW.seq (AW.block ?_)
      repeat refine AW.seq ?_
      refine AW.reg ?_
      have hF := And.intro (hlt) (he)
      repeat (first | refine wD1 ?_ | refine wD2 ?_ | refine wE1 ?_ | refine wE2 ?_ | refine wN ?_ | ((with_reducible show evIs _ (_ :: _) _ _); first | refine wQ ?_ | refine wF ?_ | refine wG ?_ | refine wT ?_ | refine wM ?_ | refine wS ?_ | refine wP ?_))
      clear hF
      repeat refine evDone ?_
      try (show AW _ _ _ _ _)
      have hF := True.intro
      refine wC (hA := f24 fs x) ?_
      clear hF
      have hF := True.intro
      repeat (first | refine wD1 ?_ | refine wD2 ?_ | refine wE1 ?_ | refine wE2 ?_ | refine wN ?_ | ((with_reducible show evIs _ (_ :: _) _ _); first | refine wQ ?_ | refine wF ?_ | refine wG ?_ | refine wT ?_ | refine wM ?_ | refine wS ?_ | refine wP ?_))
      clear hF
      repeat refine evDone ?_
      try (show AW _ _ _ _ _)
      cases hpx : doneAt fs x
      · repeat refine AW.seq ?_
        refine AW.condT (by simp [hpx]) (by simp [hpx]) ?_
        repeat refine AW.seq ?_
        refine AW.reg ?_
        have hF := True.intro
        repeat (first | refine wD1 ?_ | refine wD2 ?_ | refine wE1 ?_ | refine wE2 ?_ | refine wN ?_ | ((with_reducible show evIs _ (_ :: _) _ _); first | refine wQ ?_ | refine wF ?_ | refine wG ?_ | refine wT ?_ | refine wM ?_ | refine wS ?_ | refine wP ?_))
        clear hF
        repeat refine evDone ?_
        try (show AW _ _ _ _ _)
        have hr : allR xs (doneAt fs) = false := by
          unfold allR
          rw [List.all_eq_false]
          exact ⟨x, List.mem_of_getElem? hx, by simp [hpx]⟩
        rw [hr]
        refine AW.ret (retI rfl ?_)
        simp [a11_res, resOk, resP, resV, ARes.op, R2s, R2, R1s, R1, closeOk, closeV]
      · repeat refine AW.seq ?_
        refine AW.condF (by simp [hpx]) (by simp [hpx]) ?_
        refine AW.skip ?_
        show AW _ _ _ _ _
        refine AW.reg ?_
        have hw : IntKind.i64.wrap ((i : Int) + 1) = (i : Int) + 1 := i64_in _ ⟨by omega, by omega⟩
        have hF := hw
        repeat (first | refine wD1 ?_ | refine wD2 ?_ | refine wE1 ?_ | refine wE2 ?_ | refine wN ?_ | ((with_reducible show evIs _ (_ :: _) _ _); first | refine wQ ?_ | refine wF ?_ | refine wG ?_ | refine wT ?_ | refine wM ?_ | refine wS ?_ | refine wP ?_))
        clear hF
        repeat refine evDone ?_
        try (show AW _ _ _ _ _)
        refine ⟨i + 1, ⟨by omega, ?_⟩, by omega, ?_⟩
        · intro j hj y hy
          by_cases hji : j = i
          · subst hji; rw [hx] at hy; injection hy with hy; subst hy; exact hpx
          · exact hno j (by omega) y hy
        · refine Fit.mk _ _ _ (by simp [hw, conv2, conv]) (by simp [hw, heapFit, newEmp, conv2s, conv2, convs_refl, convs, conv]) ?_
          simp
    · have hlt' : ¬ (i : Int) < xs.length := by omega
      have hF := And.intro (hlt) (hlt')
      repeat (first | refine wD1 ?_ | refine wD2 ?_ | refine wE1 ?_ | refine wE2 ?_ | refine wN ?_ | ((with_reducible show evIs _ (_ :: _) _ _); first | refine wQ ?_ | refine wF ?_ | refine wG ?_ | refine wT ?_ | refine wM ?_ | refine wS ?_ | refine wP ?_))
      clear hF
      repeat refine evDone ?_
      try (show AW _ _ _ _ _)
      repeat refine AW.seq ?_
      refine AW.condF (by simp []) (by simp []) ?_
      refine AW.exit ?_
      show AW _ _ _ _ _
      repeat refine AW.seq ?_
      refine AW.reg ?_
      have hF := True.intro
      repeat (first | refine wD1 ?_ | refine wD2 ?_ | refine wE1 ?_ | refine wE2 ?_ | refine wN ?_ | ((with_reducible show evIs _ (_ :: _) _ _); first | refine wQ ?_ | refine wF ?_ | refine wG ?_ | refine wT ?_ | refine wM ?_ | refine wS ?_ | refine wP ?_))
      clear hF
      repeat refine evDone ?_
      try (show AW _ _ _ _ _)
      have hr : allR xs (doneAt fs) = true := by
        unfold allR
        rw [List.all_eq_true]
        intro x hx
        obtain ⟨j, hj, rfl⟩ := List.getElem_of_mem hx
        exact hno j (by omega) _ (List.getElem?_eq_getElem hj)
      rw [hr]
      refine AW.ret (retI rfl ?_)
      simp [a11_res, resOk, resP, resV, ARes.op, R2s, R2, R1s, R1, closeOk, closeV]

end Go.Proofs.Ytnjdjahcepakgaa

set_option linter.unusedSimpArgs false
set_option linter.unusedVariables false
set_option maxHeartbeats 4000000
namespace Go.Proofs.Ytnjdjahcepakgaa
open Go Go.Amb Go.IntWalk

theorem f37 (xs : List AV) (hu : ∀ x ∈ xs, (cellsOf x).length = 1) (hb : xs.length * 8 ≤ 140737488355328) (hl : xs.length ≤ 9223372036854775807) : ACall Try.prog 37 [.sl .fro xs] (· = .sl (.own 1) xs) := by
  refine a37_of (by simp) ?_
  repeat refine AW.seq ?_
  refine AW.reg ?_
  have hF := True.intro
  repeat (first | refine wD1 ?_ | refine wD2 ?_ | refine wE1 ?_ | refine wE2 ?_ | refine wN ?_ | ((with_reducible show evIs _ (_ :: _) _ _); first | refine wQ ?_ | refine wF ?_ | refine wG ?_ | refine wT ?_ | refine wM ?_ | refine wS ?_ | refine wP ?_))
  clear hF
  repeat refine evDone ?_
  try (show AW _ _ _ _ _)
  repeat refine AW.seq ?_
  refine AW.reg ?_
  have hF := True.intro
  repeat (first | refine wD1 ?_ | refine wD2 ?_ | refine wE1 ?_ | refine wE2 ?_ | refine wN ?_ | ((with_reducible show evIs _ (_ :: _) _ _); first | refine wQ ?_ | refine wF ?_ | refine wG ?_ | refine wT ?_ | refine wM ?_ | refine wS ?_ | refine wP ?_))
  clear hF
  repeat refine evDone ?_
  try (show AW _ _ _ _ _)
  refine evZ rfl rfl rfl (by conv => lhs; simp) (by simp) rfl ?_
  intro b hbz
  show AW _ _ _ _ _
  cases b
  · repeat refine AW.seq ?_
    refine AW.condF (by simp []) (by simp []) ?_
    refine AW.skip ?_
    show AW _ _ _ _ _
    repeat refine AW.seq ?_
    refine AW.reg ?_
    have hF := And.intro (hb) (And.intro (hl) (eq_true hu))
    repeat (first | refine wD1 ?_ | refine wD2 ?_ | refine wE1 ?_ | refine wE2 ?_ | refine wN ?_ | ((with_reducible show evIs _ (_ :: _) _ _); first | refine wQ ?_ | refine wF ?_ | refine wG ?_ | refine wT ?_ | refine wM ?_ | refine wS ?_ | refine wP ?_))
    clear hF
    repeat refine evDone ?_
    try (show AW _ _ _ _ _)
    refine AW.ret (retI rfl ?_)
    simp [a37_res, resOk, resP, resV, ARes.op, R2s, R2, R1s, R1, closeOk, closeV]
  · have hx : xs = [] := List.length_eq_zero_iff.1 (by simpa [lenOf] using hbz)
    subst hx
    repeat refine AW.seq ?_
    refine AW.condT (by simp []) (by simp []) ?_
    repeat refine AW.seq ?_
    refine AW.reg ?_
    have hF := True.intro
    repeat (first | refine wD1 ?_ | refine wD2 ?_ | refine wE1 ?_ | refine wE2 ?_ | refine wN ?_ | ((with_reducible show evIs _ (_ :: _) _ _); first | refine wQ ?_ | refine wF ?_ | refine wG ?_ | refine wT ?_ | refine wM ?_ | refine wS ?_ | refine wP ?_))
    clear hF
    repeat refine evDone ?_
    try (show AW _ _ _ _ _)
    refine AW.ret (retI rfl ?_)
    simp [a37_res, resOk, resP, resV, ARes.op, R2s, R2, R1s, R1, closeOk, closeV]

theorem f38 (xs : List AV) (hu : ∀ x ∈ xs, (cellsOf x).length = 5) (hb : xs.length * 88 ≤ 140737488355328) (hl : xs.length ≤ 9223372036854775807) : ACall Try.prog 38 [.sl .fro xs] (· = .sl (.own 5) xs) := by
  refine a38_of (by simp) ?_
  repeat refine AW.seq ?_
  refine AW.reg ?_
  have hF := True.intro
  repeat (first | refine wD1 ?_ | refine wD2 ?_ | refine wE1 ?_ | refine wE2 ?_ | refine wN ?_ | ((with_reducible show evIs _ (_ :: _) _ _); first | refine wQ ?_ | refine wF ?_ | refine wG ?_ | refine wT ?_ | refine wM ?_ | refine wS ?_ | refine wP ?_))
  clear hF
  repeat refine evDone ?_
  try (show AW _ _ _ _ _)
  repeat refine AW.seq ?_
  refine AW.reg ?_
  have hF := True.intro
  repeat (first | refine wD1 ?_ | refine wD2 ?_ | refine wE1 ?_ | refine wE2 ?_ | refine wN ?_ | ((with_reducible show evIs _ (_ :: _) _ _); first | refine wQ ?_ | refine wF ?_ | refine wG ?_ | refine wT ?_ | refine wM ?_ | refine wS ?_ | refine wP ?_))
  clear hF
  repeat refine evDone ?_
  try (show AW _ _ _ _ _)
  refine evZ rfl rfl rfl (by conv => lhs; simp) (by simp) rfl ?_
  intro b hbz
  show AW _ _ _ _ _
  cases b
  · repeat refine AW.seq ?_
    refine AW.condF (by simp []) (by simp []) ?_
    refine AW.skip ?_
    show AW _ _ _ _ _
    repeat refine AW.seq ?_
    refine AW.reg ?_
    have hF := And.intro (hb) (And.intro (hl) (eq_true hu))
    repeat (first | refine wD1 ?_ | refine wD2 ?_ | refine wE1 ?_ | refine wE2 ?_ | refine wN ?_ | ((with_reducible show evIs _ (_ :: _) _ _); first | refine wQ ?_ | refine wF ?_ | refine wG ?_ | refine wT ?_ | refine wM ?_ | refine wS ?_ | refine wP ?_))
    clear hF
    repeat refine evDone ?_
    try (show AW _ _ _ _ _)
    refine AW.ret (retI rfl ?_)
    simp [a38_res, resOk, resP, resV, ARes.op, R2s, R2, R1s, R1, closeOk, closeV]
  · have hx : xs = [] := List.length_eq_zero_iff.1 (by simpa [lenOf] using hbz)
    subst hx
    repeat refine AW.seq ?_
    refine AW.condT (by simp []) (by simp []) ?_
    repeat refine AW.seq ?_
    refine AW.reg ?_
    have hF := True.intro
    repeat (first | refine wD1 ?_ | refine wD2 ?_ | refine wE1 ?_ | refine wE2 ?_ | refine wN ?_ | ((with_reducible show evIs _ (_ :: _) _ _); first | refine wQ ?_ | refine wF ?_ | refine wG ?_ | refine wT ?_ | refine wM ?_ | refine wS ?_ | refine wP ?_))
    clear hF
    repeat refine evDone ?_
    try (show AW _ _ _ _ _)
    refine AW.ret (retI rfl ?_)
    simp [a38_res, resOk, resP, resV, ARes.op, R2s, R2, R1s, R1, closeOk, closeV]

theorem f40 (xs : List AV) (hu : ∀ x ∈ xs, (cellsOf x).length = 10) (hb : xs.length * 136 ≤ 140737488355328) (hl : xs.length ≤ 9223372036854775807) : ACall Try.prog 40 [.sl .fro xs] (· = .sl (.own 10) xs) := by
  refine a40_of (by simp) ?_
  repeat refine AW.seq ?_
  refine AW.reg ?_
  have hF := True.intro
  repeat (first | refine wD1 ?_ | refine wD2 ?_ | refine wE1 ?_ | refine wE2 ?_ | refine wN ?_ | ((with_reducible show evIs _ (_ :: _) _ _); first | refine wQ ?_ | refine wF ?_ | refine wG ?_ | refine wT ?_ | refine wM ?_ | refine wS ?_ | refine wP ?_))
  clear hF
  repeat refine evDone ?_
  try (show AW _ _ _ _ _)
  repeat refine AW.seq ?_
  refine AW.reg ?_
  have hF := True.intro
  repeat (first | refine wD1 ?_ | refine wD2 ?_ | refine wE1 ?_ | refine wE2 ?_ | refine wN ?_ | ((with_reducible show evIs _ (_ :: _) _ _); first | refine wQ ?_ | refine wF ?_ | refine wG ?_ | refine wT ?_ | refine wM ?_ | refine wS ?_ | refine wP ?_))
  clear hF
  repeat refine evDone ?_
  try (show AW _ _ _ _ _)
  refine evZ rfl rfl rfl (by conv => lhs; simp) (by simp) rfl ?_
  intro b hbz
  show AW _ _ _ _ _
  cases b
  · repeat refine AW.seq ?_
    refine AW.condF (by simp []) (by simp []) ?_
    refine AW.skip ?_
    show AW _ _ _ _ _
    repeat refine AW.seq ?_
    refine AW.reg ?_
    have hF := And.intro (hb) (And.intro (hl) (eq_true hu))
    repeat (first | refine wD1 ?_ | refine wD2 ?_ | refine wE1 ?_ | refine wE2 ?_ | refine wN ?_ | ((with_reducible show evIs _ (_ :: _) _ _); first | refine wQ ?_ | refine wF ?_ | refine wG ?_ | refine wT ?_ | refine wM ?_ | refine wS ?_ | refine wP ?_))
    clear hF
    repeat refine evDone ?_
    try (show AW _ _ _ _ _)
    refine AW.ret (retI rfl ?_)
    simp [a40_res, resOk, resP, resV, ARes.op, R2s, R2, R1s, R1, closeOk, closeV]
  · have hx : xs = [] := List.length_eq_zero_iff.1 (by simpa [lenOf] using hbz)
    subst hx
    repeat refine AW.seq ?_
    refine AW.condT (by simp []) (by simp []) ?_
    repeat refine AW.seq ?_
    refine AW.reg ?_
    have hF := True.intro
    repeat (first | refine wD1 ?_ | refine wD2 ?_ | refine wE1 ?_ | refine wE2 ?_ | refine wN ?_ | ((with_reducible show evIs _ (_ :: _) _ _); first | refine wQ ?_ | refine wF ?_ | refine wG ?_ | refine wT ?_ | refine wM ?_ | refine wS ?_ | refine wP ?_))
    clear hF
    repeat refine evDone ?_
    try (show AW _ _ _ _ _)
    refine AW.ret (retI rfl ?_)
    simp [a40_res, resOk, resP, resV, ARes.op, R2s, R2, R1s, R1, closeOk, closeV]

theorem f41 (xs : List AV) (hu : ∀ x ∈ xs, (cellsOf x).length = 2) (hb : xs.length * 32 ≤ 140737488355328) (hl : xs.length ≤ 9223372036854775807) : ACall Try.prog 41 [.sl .fro xs] (· = .sl (.own 2) xs) := by
  refine a41_of (by simp) ?_
  repeat refine AW.seq ?_
  refine AW.reg ?_
  have hF := True.intro
  repeat (first | refine wD1 ?_ | refine wD2 ?_ | refine wE1 ?_ | refine wE2 ?_ | refine wN ?_ | ((with_reducible show evIs _ (_ :: _) _ _); first | refine wQ ?_ | refine wF ?_ | refine wG ?_ | refine wT ?_ | refine wM ?_ | refine wS ?_ | refine wP ?_))
  clear hF
  repeat refine evDone ?_
  try (show AW _ _ _ _ _)
  repeat refine AW.seq ?_
  refine AW.reg ?_
  have hF := True.intro
  repeat (first | refine wD1 ?_ | refine wD2 ?_ | refine wE1 ?_ | refine wE2 ?_ | refine wN ?_ | ((with_reducible show evIs _ (_ :: _) _ _); first | refine wQ ?_ | refine wF ?_ | refine wG ?_ | refine wT ?_ | refine wM ?_ | refine wS ?_ | refine wP ?_))
  clear hF
  repeat refine evDone ?_
  try (show AW _ _ _ _ _)
  refine evZ rfl rfl rfl (by conv => lhs; simp) (by simp) rfl ?_
  intro b hbz
  show AW _ _ _ _ _
  cases b
  · repeat refine AW.seq ?_
    refine AW.condF (by simp []) (by simp []) ?_
    refine AW.skip ?_
    show AW _ _ _ _ _
    repeat refine AW.seq ?_
    refine AW.reg ?_
    have hF := And.intro (hb) (And.intro (hl) (eq_true hu))
    repeat (first | refine wD1 ?_ | refine wD2 ?_ | refine wE1 ?_ | refine wE2 ?_ | refine wN ?_ | ((with_reducible show evIs _ (_ :: _) _ _); first | refine wQ ?_ | refine wF ?_ | refine wG ?_ | refine wT ?_ | refine wM ?_ | refine wS ?_ | refine wP ?_))
    clear hF
    repeat refine evDone ?_
    try (show AW _ _ _ _ _)
    refine AW.ret (retI rfl ?_)
    simp [a41_res, resOk, resP, resV, ARes.op, R2s, R2, R1s, R1, closeOk, closeV]
  · have hx : xs = [] := List.length_eq_zero_iff.1 (by simpa [lenOf] using hbz)
    subst hx
    repeat refine AW.seq ?_
    refine AW.condT (by simp []) (by simp []) ?_
    repeat refine AW.seq ?_
    refine AW.reg ?_
    have hF := True.intro
    repeat (first | refine wD1 ?_ | refine wD2 ?_ | refine wE1 ?_ | refine wE2 ?_ | refine wN ?_ | ((with_reducible show evIs _ (_ :: _) _ _); first | refine wQ ?_ | refine wF ?_ | refine wG ?_ | refine wT ?_ | refine wM ?_ | refine wS ?_ | refine wP ?_))
    clear hF
    repeat refine evDone ?_
    try (show AW _ _ _ _ _)
    refine AW.ret (retI rfl ?_)
    simp [a41_res, resOk, resP, resV, ARes.op, R2s, R2, R1s, R1, closeOk, closeV]

theorem f45 (xs : List AV) (hu : ∀ x ∈ xs, (cellsOf x).length = 5) (hb : xs.length * 80 ≤ 140737488355328) (hl : xs.length ≤ 9223372036854775807) : ACall Try.prog 45 [.sl .fro xs] (· = .sl (.own 5) xs) := by
  refine a45_of (by simp) ?_
  repeat refine AW.seq ?_
  refine AW.reg ?_
  have hF := True.intro
  repeat (first | refine wD1 ?_ | refine wD2 ?_ | refine wE1 ?_ | refine wE2 ?_ | refine wN ?_ | ((with_reducible show evIs _ (_ :: _) _ _); first | refine wQ ?_ | refine wF ?_ | refine wG ?_ | refine wT ?_ | refine wM ?_ | refine wS ?_ | refine wP ?_))
  clear hF
  repeat refine evDone ?_
  try (show AW _ _ _ _ _)
  repeat refine AW.seq ?_
  refine AW.reg ?_
  have hF := True.intro
  repeat (first | refine wD1 ?_ | refine wD2 ?_ | refine wE1 ?_ | refine wE2 ?_ | refine wN ?_ | ((with_reducible show evIs _ (_ :: _) _ _); first | refine wQ ?_ | refine wF ?_ | refine wG ?_ | refine wT ?_ | refine wM ?_ | refine wS ?_ | refine wP ?_))
  clear hF
  repeat refine evDone ?_
  try (show AW _ _ _ _ _)
  refine evZ rfl rfl rfl (by conv => lhs; simp) (by simp) rfl ?_
  intro b hbz
  show AW _ _ _ _ _
  cases b
  · repeat refine AW.seq ?_
    refine AW.condF (by simp []) (by simp []) ?_
    refine AW.skip ?_
    show AW _ _ _ _ _
    repeat refine AW.seq ?_
    refine AW.reg ?_
    have hF := And.intro (hb) (And.intro (hl) (eq_true hu))
    repeat (first | refine wD1 ?_ | refine wD2 ?_ | refine wE1 ?_ | refine wE2 ?_ | refine wN ?_ | ((with_reducible show evIs _ (_ :: _) _ _); first | refine wQ ?_ | refine wF ?_ | refine wG ?_ | refine wT ?_ | refine wM ?_ | refine wS ?_ | refine wP ?_))
    clear hF
    repeat refine evDone ?_
    try (show AW _ _ _ _ _)
    refine AW.ret (retI rfl ?_)
    simp [a45_res, resOk, resP, resV, ARes.op, R2s, R2, R1s, R1, closeOk, closeV]
  · have hx : xs = [] := List.length_eq_zero_iff.1 (by simpa [lenOf] using hbz)
    subst hx
    repeat refine AW.seq ?_
    refine AW.condT (by simp []) (by simp []) ?_
    repeat refine AW.seq ?_
    refine AW.reg ?_
    have hF := True.intro
    repeat (first | refine wD1 ?_ | refine wD2 ?_ | refine wE1 ?_ | refine wE2 ?_ | refine wN ?_ | ((with_reducible show evIs _ (_ :: _) _ _); first | refine wQ ?_ | refine wF ?_ | refine wG ?_ | refine wT ?_ | refine wM ?_ | refine wS ?_ | refine wP ?_))
    clear hF
    repeat refine evDone ?_
    try (show AW _ _ _ _ _)
    refine AW.ret (retI rfl ?_)
    simp [a45_res, resOk, resP, resV, ARes.op, R2s, R2, R1s, R1, closeOk, closeV]

theorem f46 (xs : List AV) (hu : ∀ x ∈ xs, (cellsOf x).length = 1) (hb : xs.length * 16 ≤ 140737488355328) (hl : xs.length ≤ 9223372036854775807) : ACall Try.prog 46 [.sl .fro xs] (· = .sl (.own 1) xs) := by
  refine a46_of (by simp) ?_
  repeat refine AW.seq ?_
  refine AW.reg ?_
  have hF := True.intro
  repeat (first | refine wD1 ?_ | refine wD2 ?_ | refine wE1 ?_ | refine wE2 ?_ | refine wN ?_ | ((with_reducible show evIs _ (_ :: _) _ _); first | refine wQ ?_ | refine wF ?_ | refine wG ?_ | refine wT ?_ | refine wM ?_ | refine wS ?_ | refine wP ?_))
  clear hF
  repeat refine evDone ?_
  try (show AW _ _ _ _ _)
  repeat refine AW.seq ?_
  refine AW.reg ?_
  have hF := True.intro
  repeat (first | refine wD1 ?_ | refine wD2 ?_ | refine wE1 ?_ | refine wE2 ?_ | refine wN ?_ | ((with_reducible show evIs _ (_ :: _) _ _); first | refine wQ ?_ | refine wF ?_ | refine wG ?_ | refine wT ?_ | refine wM ?_ | refine wS ?_ | refine wP ?_))
  clear hF
  repeat refine evDone ?_
  try (show AW _ _ _ _ _)
  refine evZ rfl rfl rfl (by conv => lhs; simp) (by simp) rfl ?_
  intro b hbz
  show AW _ _ _ _ _
  cases b
  · repeat refine AW.seq ?_
    refine AW.condF (by simp []) (by simp []) ?_
    refine AW.skip ?_
    show AW _ _ _ _ _
    repeat refine AW.seq ?_
    refine AW.reg ?_
    have hF := And.intro (hb) (And.intro (hl) (eq_true hu))
    repeat (first | refine wD1 ?_ | refine wD2 ?_ | refine wE1 ?_ | refine wE2 ?_ | refine wN ?_ | ((with_reducible show evIs _ (_ :: _) _ _); first | refine wQ ?_ | refine wF ?_ | refine wG ?_ | refine wT ?_ | refine wM ?_ | refine wS ?_ | refine wP ?_))
    clear hF
    repeat refine evDone ?_
    try (show AW _ _ _ _ _)
    refine AW.ret (retI rfl ?_)
    simp [a46_res, resOk, resP, resV, ARes.op, R2s, R2, R1s, R1, closeOk, closeV]
  · have hx : xs = [] := List.length_eq_zero_iff.1 (by simpa [lenOf] using hbz)
    subst hx
    repeat refine AW.seq ?_
    refine AW.condT (by simp []) (by simp []) ?_
    repeat refine AW.seq ?_
    refine AW.reg ?_
    have hF := True.intro
    repeat (first | refine wD1 ?_ | refine wD2 ?_ | refine wE1 ?_ | refine wE2 ?_ | refine wN ?_ | ((with_reducible show evIs _ (_ :: _) _ _); first | refine wQ ?_ | refine wF ?_ | refine wG ?_ | refine wT ?_ | refine wM ?_ | refine wS ?_ | refine wP ?_))
    clear hF
    repeat refine evDone ?_
    try (show AW _ _ _ _ _)
    refine AW.ret (retI rfl ?_)
    simp [a46_res, resOk, resP, resV, ARes.op, R2s, R2, R1s, R1, closeOk, closeV]

end Go.Proofs.Ytnjdjahcepakgaa

set_option linter.unusedSimpArgs false
set_option linter.unusedVariables false
set_option maxHeartbeats 4000000
namespace Go.Proofs.Ytnjdjahcepakgaa
open Go Go.Amb Go.IntWalk

inductive Val where
  | mk (k n : Int) (t : ByteArray) (is : List Val) (ks : List ByteArray)
def ko (o : Bool) (sz : Nat) : SK := if o then .own sz else .fro
@[simp] theorem ko_true (sz : Nat) : ko true sz = .own sz := rfl
@[simp] theorem ko_false (sz : Nat) : ko false sz = .fro := rfl
mutual
def Val.av (o : Bool) : Val → AV
  | .mk k n t is ks => .agg [.int .i64 k, .int .i64 n, .str t, .sl (ko o 5) (avs o is), .sl (ko o 1) (ks.map .str)]
def avs (o : Bool) : List Val → List AV
  | [] => []
  | v :: vs => v.av o :: avs o vs
end
mutual
def Val.okv : Val → Prop
  | .mk _ _ _ is ks => is.length * 80 ≤ 140737488355328 ∧ ks.length * 16 ≤ 140737488355328 ∧ okvs is
def okvs : List Val → Prop
  | [] => True
  | v :: vs => v.okv ∧ okvs vs
end
mutual
def Val.sz : Val → Nat
  | .mk _ _ _ is _ => szs is + 1
def szs : List Val → Nat
  | [] => 0
  | v :: vs => v.sz + szs vs
end
theorem avs_map (o : Bool) (vs : List Val) : avs o vs = vs.map (Val.av o) := by
  induction vs with
  | nil => rfl
  | cons v vs ih => simp [avs, ih]
@[simp] theorem avs_length (o : Bool) (vs : List Val) : (avs o vs).length = vs.length := by simp [avs_map]
theorem okvs_mem {vs : List Val} (h : okvs vs) {v : Val} (hv : v ∈ vs) : v.okv := by
  induction vs with
  | nil => simp at hv
  | cons w vs ih =>
    rcases List.mem_cons.1 hv with rfl | hv
    · exact h.1
    · exact ih h.2 hv
theorem szs_mem {vs : List Val} {v : Val} (hv : v ∈ vs) : v.sz ≤ szs vs := by
  induction vs with
  | nil => simp at hv
  | cons w vs ih =>
    rcases List.mem_cons.1 hv with rfl | hv
    · simp [szs]
    · have := ih hv; simp only [szs]; omega
mutual
theorem clC_av : ∀ (o : Bool) (v : Val), clC (v.av o) = v.av false
  | o, .mk k n t is ks => by
    cases o <;> simp [Val.av, avs_map, Function.comp_def]
    intro v hv
    exact clC_av true v
end
theorem av_len (o : Bool) (vs : List Val) : ∀ x ∈ avs o vs, (cellsOf x).length = 5 := by
  intro x hx
  rw [avs_map, List.mem_map] at hx
  obtain ⟨v, _, rfl⟩ := hx
  cases v
  simp [Val.av]
/-- A row that is copied by and by. -/
def mid (vs : List Val) (i : Nat) : List AV := avs true (vs.take i) ++ avs false (vs.drop i)
theorem mid_len (vs : List Val) (i : Nat) : (mid vs i).length = vs.length := by
  simp [mid]; omega
theorem mid_at {vs : List Val} {i : Nat} {v : Val} (h : vs[i]? = some v) : elemAt (mid vs i) i = v.av false := by
  obtain ⟨hi, rfl⟩ := List.getElem?_eq_some_iff.1 h
  have hl : (avs true (vs.take i)).length = i := by simp; omega
  have hd : vs.drop i = vs[i] :: vs.drop (i + 1) := List.drop_eq_getElem_cons hi
  unfold elemAt mid
  rw [List.getD_eq_getElem?_getD, List.getElem?_append_right (by omega), hl, Nat.sub_self, hd]
  rfl
theorem mid_set {vs : List Val} {i : Nat} {v : Val} (h : vs[i]? = some v) : (mid vs i).set i (v.av true) = mid vs (i + 1) := by
  obtain ⟨hi, rfl⟩ := List.getElem?_eq_some_iff.1 h
  apply List.ext_getElem?
  intro j
  simp only [mid, avs_map, List.getElem?_set, List.getElem?_append, List.length_map, List.length_take, List.length_append, List.length_drop, List.getElem?_map, List.getElem?_take, List.getElem?_drop]
  by_cases h1 : i = j
  · subst h1
    simp [show i < min (i + 1) vs.length by omega, show i < min i vs.length + (vs.length - i) by omega, List.getElem?_eq_getElem hi]
  · by_cases h2 : j < i
    · simp [h1, show j < min i vs.length by omega, show j < min (i + 1) vs.length by omega, h2, show j < i + 1 by omega]
    · simp only [h1, if_false, show ¬ j < min i vs.length by omega, show ¬ j < min (i + 1) vs.length by omega]
      congr 2
      omega

theorem mid_full (vs : List Val) : mid vs vs.length = avs true vs := by simp [mid, avs]
theorem mid_zero (vs : List Val) : mid vs 0 = avs false vs := by simp [mid, avs]
theorem f39_step (m : Nat) (ih : ∀ vs, szs vs < m → okvs vs → vs.length * 80 ≤ 140737488355328 → ACall Try.prog 39 [.sl .fro (avs false vs)] (· = .sl (.own 5) (avs true vs)))
    (vs : List Val) (hm : szs vs ≤ m) (hok : okvs vs) (hb : vs.length * 80 ≤ 140737488355328) : ACall Try.prog 39 [.sl .fro (avs false vs)] (· = .sl (.own 5) (avs true vs)) := by
  refine a39_of (by simp) ?_
  repeat refine AW.seq ?_
  refine AW.reg ?_
  have hF := True.intro
  repeat (first | refine wD1 ?_ | refine wD2 ?_ | refine wE1 ?_ | refine wE2 ?_ | refine wN ?_ | ((with_reducible show evIs _ (_ :: _) _ _); first | refine wQ ?_ | refine wF ?_ | refine wG ?_ | refine wT ?_ | refine wM ?_ | refine wS ?_ | refine wP ?_))
  clear hF
  repeat refine evDone ?_
  try (show AW _ _ _ _ _)
  repeat refine AW.seq ?_
  refine AW.reg ?_
  have hF := True.intro
  repeat (first | refine wD1 ?_ | refine wD2 ?_ | refine wE1 ?_ | refine wE2 ?_ | refine wN ?_ | ((with_reducible show evIs _ (_ :: _) _ _); first | refine wQ ?_ | refine wF ?_ | refine wG ?_ | refine wT ?_ | refine wM ?_ | refine wS ?_ | refine wP ?_))
  clear hF
  repeat refine evDone ?_
  try (show AW _ _ _ _ _)
  have hF := True.intro
  refine wA (hA := f45 (avs false vs) (av_len false vs) (by simpa using hb) (by simp; omega)) ?_
  clear hF
  have hF := True.intro
  repeat (first | refine wD1 ?_ | refine wD2 ?_ | refine wE1 ?_ | refine wE2 ?_ | refine wN ?_ | ((with_reducible show evIs _ (_ :: _) _ _); first | refine wQ ?_ | refine wF ?_ | refine wG ?_ | refine wT ?_ | refine wM ?_ | refine wS ?_ | refine wP ?_))
  clear hF
  repeat refine evDone ?_
  try (show AW _ _ _ _ _)
  repeat refine AW.seq ?_
  refine AW.reg ?_
  have hF := True.intro
  repeat (first | refine wD1 ?_ | refine wD2 ?_ | refine wE1 ?_ | refine wE2 ?_ | refine wN ?_ | ((with_reducible show evIs _ (_ :: _) _ _); first | refine wQ ?_ | refine wF ?_ | refine wG ?_ | refine wT ?_ | refine wM ?_ | refine wS ?_ | refine wP ?_))
  clear hF
  repeat refine evDone ?_
  try (show AW _ _ _ _ _)
  repeat refine AW.seq ?_
  refine AW.block ?_
  refine AW.loop (fun g : Nat × Nat × Nat => g.1 ≤ vs.length ∧ g.2.2 < g.2.1) (fun g => mkS [(3, .hdr g.2.2 0 vs.length), (8, .hdr g.2.2 0 vs.length), (9, .int .i64 vs.length), (10, .int .i64 g.1)] [(g.2.2, ⟨5, false, mid vs g.1⟩)] g.2.1) (fun g => vs.length - g.1) (0, 30, 2) ⟨by simp, by simp⟩ ?_ ?_
  · refine Fit.mk _ _ _ (by simp [mid_zero, conv2, conv]) (by simp [mid_zero, heapFit, newEmp, conv2s, conv2, convs_refl, convs, conv]) ?_
    intro r hr
    simp at hr
    simp
    omega
  · rintro ⟨i, n, r⟩ ⟨hi, hr⟩
    dsimp only at hi hr ⊢
    repeat refine AW.seq ?_
    refine AW.reg ?_
    by_cases hlt : i < vs.length
    · obtain ⟨v, hv⟩ : ∃ v, vs[i]? = some v := ⟨_, List.getElem?_eq_getElem hlt⟩
      have hvm : v ∈ vs := List.mem_of_getElem? hv
      have he := mid_at hv
      have hne : ∀ k, (r = n + k) = False := fun k => eq_false (by omega)
      have hne' : ∀ k, (n + k = r) = False := fun k => eq_false (by omega)
      have hnl : ∀ k, (n + k < n) = False := fun k => eq_false (by omega)
      have hml := mid_len vs i
      obtain ⟨k, q, t, is, ks⟩ := v
      have hF := hlt
      repeat (first | refine wD1 ?_ | refine wD2 ?_ | refine wE1 ?_ | refine wE2 ?_ | refine wN ?_ | ((with_reducible show evIs _ (_ :: _) _ _); first | refine wQ ?_ | refine wF ?_ | refine wG ?_ | refine wT ?_ | refine wM ?_ | refine wS ?_ | refine wP ?_))
      clear hF
      repeat refine evDone ?_
      try (show AW _ _ _ _ _)
      repeat refine AW.seq ?_
      refine AW.condT (by simp []) (by simp []) ?_
      refine AW.skip ?_
      show AW _ _ _ _ _
      refine AW.seq (AW.block ?_)
      repeat refine AW.seq ?_
      refine AW.reg ?_
      have hF := And.intro (hlt) (And.intro (he) (And.intro (hne) (And.intro (hne') (And.intro (hnl) (And.intro (hml) (Val.av.eq_1))))))
      repeat (first | refine wD1 ?_ | refine wD2 ?_ | refine wE1 ?_ | refine wE2 ?_ | refine wN ?_ | ((with_reducible show evIs _ (_ :: _) _ _); first | refine wQ ?_ | refine wF ?_ | refine wG ?_ | refine wT ?_ | refine wM ?_ | refine wS ?_ | refine wP ?_))
      clear hF
      repeat refine evDone ?_
      try (show AW _ _ _ _ _)
      repeat refine AW.seq ?_
      refine AW.draw ?_
      have hF := And.intro (hne) (And.intro (hne') (hnl))
      repeat (first | refine wD1 ?_ | refine wD2 ?_ | refine wE1 ?_ | refine wE2 ?_ | refine wN ?_ | ((with_reducible show evIs _ (_ :: _) _ _); first | refine wQ ?_ | refine wF ?_ | refine wG ?_ | refine wT ?_ | refine wM ?_ | refine wS ?_ | refine wP ?_))
      clear hF
      repeat refine evDone ?_
      try (show AW _ _ _ _ _)
      have hov := okvs_mem hok hvm
      simp only [Val.okv] at hov
      have hsv := szs_mem hvm
      simp only [Val.sz] at hsv
      have hF := And.intro (hne) (And.intro (hne') (hnl))
      refine wA (hA := ih is (by omega) hov.2.2 hov.1) ?_
      clear hF
      have hF := And.intro (hne) (And.intro (hne') (hnl))
      repeat (first | refine wD1 ?_ | refine wD2 ?_ | refine wE1 ?_ | refine wE2 ?_ | refine wN ?_ | ((with_reducible show evIs _ (_ :: _) _ _); first | refine wQ ?_ | refine wF ?_ | refine wG ?_ | refine wT ?_ | refine wM ?_ | refine wS ?_ | refine wP ?_))
      clear hF
      repeat refine evDone ?_
      try (show AW _ _ _ _ _)
      have hF := And.intro (hne) (And.intro (hne') (hnl))
      refine wA (hA := f46 (ks.map .str) (by simp) (by simpa using hov.2.1) (by simp; omega)) ?_
      clear hF
      have hF := And.intro (hne) (And.intro (hne') (hnl))
      repeat (first | refine wD1 ?_ | refine wD2 ?_ | refine wE1 ?_ | refine wE2 ?_ | refine wN ?_ | ((with_reducible show evIs _ (_ :: _) _ _); first | refine wQ ?_ | refine wF ?_ | refine wG ?_ | refine wT ?_ | refine wM ?_ | refine wS ?_ | refine wP ?_))
      clear hF
      repeat refine evDone ?_
      try (show AW _ _ _ _ _)
      repeat refine AW.seq ?_
      refine AW.reg ?_
      have ht1 : (avs true is).take is.length = avs true is := List.take_of_length_le (by simp)
      have ht2 : (ks.map AV.str).take ks.length = ks.map .str := List.take_of_length_le (by simp)
      have hr30 : r < n + 30 := by omega
      have hset : (mid vs i).set i (.agg [.int .i64 k, .int .i64 q, .str t, .sl (.own 5) (avs true is), .sl (.own 1) (ks.map .str)]) = mid vs (i + 1) := by simpa [Val.av] using mid_set hv
      have hF := And.intro (hlt) (And.intro (he) (And.intro (hne) (And.intro (hne') (And.intro (hnl) (And.intro (hml) (And.intro (Val.av.eq_1) (And.intro (ht1) (And.intro (ht2) (hset)))))))))
      repeat (first | refine wD1 ?_ | refine wD2 ?_ | refine wE1 ?_ | refine wE2 ?_ | refine wN ?_ | ((with_reducible show evIs _ (_ :: _) _ _); first | refine wQ ?_ | refine wF ?_ | refine wG ?_ | refine wT ?_ | refine wM ?_ | refine wS ?_ | refine wP ?_))
      clear hF
      repeat refine evDone ?_
      try (show AW _ _ _ _ _)
      refine AW.reg ?_
      have hw : IntKind.i64.wrap ((i : Int) + 1) = (i : Int) + 1 := i64_in _ ⟨by omega, by omega⟩
      have hF := hw
      repeat (first | refine wD1 ?_ | refine wD2 ?_ | refine wE1 ?_ | refine wE2 ?_ | refine wN ?_ | ((with_reducible show evIs _ (_ :: _) _ _); first | refine wQ ?_ | refine wF ?_ | refine wG ?_ | refine wT ?_ | refine wM ?_ | refine wS ?_ | refine wP ?_))
      clear hF
      repeat refine evDone ?_
      try (show AW _ _ _ _ _)
      refine ⟨(i + 1, n + 30, r), ⟨by dsimp only; omega, by dsimp only; omega⟩, by dsimp only; omega, ?_⟩
      refine Fit.mk _ _ _ (by simp [hw, hne, hne', ht1, ht2, hset, hr30, conv2, conv]) (by simp [hw, hne, hne', ht1, ht2, hset, hr30, heapFit, newEmp, conv2s, conv2, convs_refl, convs, conv]) ?_
      intro q hq
      simp at hq
      simp
      omega
    · have hlt' : ¬ (i : Int) < vs.length := by omega
      have hi' : i = vs.length := by omega
      subst hi'
      have hF := And.intro (hlt) (hlt')
      repeat (first | refine wD1 ?_ | refine wD2 ?_ | refine wE1 ?_ | refine wE2 ?_ | refine wN ?_ | ((with_reducible show evIs _ (_ :: _) _ _); first | refine wQ ?_ | refine wF ?_ | refine wG ?_ | refine wT ?_ | refine wM ?_ | refine wS ?_ | refine wP ?_))
      clear hF
      repeat refine evDone ?_
      try (show AW _ _ _ _ _)
      repeat refine AW.seq ?_
      refine AW.condF (by simp []) (by simp []) ?_
      refine AW.exit ?_
      show AW _ _ _ _ _
      repeat refine AW.seq ?_
      refine AW.reg ?_
      have hF := True.intro
      repeat (first | refine wD1 ?_ | refine wD2 ?_ | refine wE1 ?_ | refine wE2 ?_ | refine wN ?_ | ((with_reducible show evIs _ (_ :: _) _ _); first | refine wQ ?_ | refine wF ?_ | refine wG ?_ | refine wT ?_ | refine wM ?_ | refine wS ?_ | refine wP ?_))
      clear hF
      repeat refine evDone ?_
      try (show AW _ _ _ _ _)
      have ht : (avs true vs).take vs.length = avs true vs := List.take_of_length_le (by simp)
      refine AW.ret (retI rfl ?_)
      simp [mid_full, ht, a39_res, resOk, resP, resV, ARes.op, R2s, R2, R1s, R1, closeOk, closeV]
theorem f39 (vs : List Val) (hok : okvs vs) (hb : vs.length * 80 ≤ 140737488355328) : ACall Try.prog 39 [.sl .fro (avs false vs)] (· = .sl (.own 5) (avs true vs)) := by
  have key : ∀ (m : Nat) (vs : List Val), szs vs ≤ m → okvs vs → vs.length * 80 ≤ 140737488355328 → ACall Try.prog 39 [.sl .fro (avs false vs)] (· = .sl (.own 5) (avs true vs)) := by
    intro m
    induction m using Nat.strongRecOn with
    | _ m ih => exact fun vs hm hok hb => f39_step m (fun vs' h => ih (szs vs') h vs' (Nat.le_refl _)) vs hm hok hb
  exact key _ vs (Nat.le_refl _) hok hb
end Go.Proofs.Ytnjdjahcepakgaa

set_option linter.unusedSimpArgs false
set_option linter.unusedVariables false
set_option maxHeartbeats 4000000
namespace Go.Proofs.Ytnjdjahcepakgaa
open Go Go.Amb Go.IntWalk

structure Undo where
  fn : Int
  args : List Val
def Undo.av (o : Bool) (u : Undo) : AV := .agg [.int .i64 u.fn, .sl (ko o 5) (avs o u.args)]
def Val.cells (o : Bool) (v : Val) : List AV := cellsOf (v.av o)
structure Mark where
  kind : Int
  target : Int
  slot : Int
  height : Int
  undos : List Undo
  thrown : Val
def Mark.av (o : Bool) (m : Mark) : AV := .agg ([.int .i64 m.kind, .int .i64 m.target, .int .i64 m.slot, .int .i64 m.height, .sl (ko o 2) (m.undos.map (Undo.av o))] ++ m.thrown.cells o)
structure Frame where
  fn : Int
  pc : Int
  slots : List Val
  stack : List Val
  marks : List Mark
def Frame.av (o : Bool) (f : Frame) : AV := .agg [.int .i64 f.fn, .int .i64 f.pc, .sl (ko o 5) (avs o f.slots), .sl (ko o 5) (avs o f.stack), .sl (ko o 10) (f.marks.map (Mark.av o))]
structure Coro where
  state : Int
  frames : List Frame
  future : Int
  waits : List Int
  select : Bool
  key : ByteArray
def Coro.av (o : Bool) (c : Coro) : AV := .agg [.int .i64 c.state, .sl (ko o 5) (c.frames.map (Frame.av o)), .int .i64 c.future, .sl (ko o 1) (c.waits.map (AV.int .i64)), .bool c.select, .str c.key]
end Go.Proofs.Ytnjdjahcepakgaa
