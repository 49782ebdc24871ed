/- Contracts of chapter 37's reference, first part: what reads a queue. -/
import Derived.Test.YtljahaeachdjmaaB2
import Derived.Test.YtljahaeachdjmaaT9

set_option linter.unusedSimpArgs false
set_option linter.unusedVariables false
set_option maxHeartbeats 8000000
namespace Go.Proofs.Ytljahaeachdjmaa
open Go Go.Amb Go.IntWalk

/-- The reference's queue, as a method that reads sees it. -/
def wv (xs : List Item) : AV := .fptr (.agg [.bool true, items xs]) 0
/-- The roots of the reference's queue. -/
def Ws (B H : Nat) (xs : List Item) : List (Nat × Blk) := [(B, ⟨2, true, [.agg [.bool true, .hdr H 0 xs.length]]⟩), (H, ⟨2, false, xs.map Item.av⟩)]
theorem f32 (a b : Item) : ACall Try.prog 32 [a.av, b.av] (· = .bool (bef a b)) := by
  obtain ⟨a1, a2⟩ := a
  obtain ⟨b1, b2⟩ := b
  simp only [Item.av]
  refine a32_of (by simp) ?_
  repeat refine AW.seq ?_
  refine AW.reg ?_
  have hF := True.intro
  repeat ((with_reducible show evIs _ (_ :: _) _ _); first | refine wQ ?_ | refine wF ?_ | refine wG ?_ | refine wT ?_ | refine wM ?_ | refine wS ?_ | refine wP ?_)
  clear hF
  repeat refine evDone ?_
  try (show AW _ _ _ _ _)
  repeat refine AW.seq ?_
  refine AW.reg ?_
  by_cases h1 : a1 < b1
  · have hF := h1
    repeat ((with_reducible show evIs _ (_ :: _) _ _); first | refine wQ ?_ | refine wF ?_ | refine wG ?_ | refine wT ?_ | refine wM ?_ | refine wS ?_ | refine wP ?_)
    clear hF
    repeat refine evDone ?_
    try (show AW _ _ _ _ _)
    refine AW.ret (retI rfl ?_)
    simp [bef, h1, a32_res, resOk, resP, resV, ARes.op, R2s, R2, R1s, R1, closeOk, closeV]
  · by_cases h2 : a1 = b1
    · subst h2
      have hF := h1
      repeat ((with_reducible show evIs _ (_ :: _) _ _); first | refine wQ ?_ | refine wF ?_ | refine wG ?_ | refine wT ?_ | refine wM ?_ | refine wS ?_ | refine wP ?_)
      clear hF
      repeat refine evDone ?_
      try (show AW _ _ _ _ _)
      refine AW.ret (retI rfl ?_)
      simp [bef, h1, a32_res, resOk, resP, resV, ARes.op, R2s, R2, R1s, R1, closeOk, closeV]
    · have h3 : (a1 == b1) = false := by simp [h2]
      have hF := And.intro (h1) (And.intro (h2) (h3))
      repeat ((with_reducible show evIs _ (_ :: _) _ _); first | refine wQ ?_ | refine wF ?_ | refine wG ?_ | refine wT ?_ | refine wM ?_ | refine wS ?_ | refine wP ?_)
      clear hF
      repeat refine evDone ?_
      try (show AW _ _ _ _ _)
      refine AW.ret (retI rfl ?_)
      simp [bef, h1, h2, h3, a32_res, resOk, resP, resV, ARes.op, R2s, R2, R1s, R1, closeOk, closeV]
theorem f16 (N : Nat) : BCall Try.prog 16 [] N [] (fun H1 n' v => H1 = Ws (N + 2) (N + 500) [] ∧ n' = N + 1000 ∧ v = .ptr (N + 2) 0 0) := by
  have hnl : ∀ k, (N + k < N) = False := fun k => eq_false (by omega)
  refine bcall_coded a16_ok (by simp) ?_
  repeat refine AW.seq ?_
  refine AW.reg ?_
  have hF := hnl
  repeat ((with_reducible show evIs _ (_ :: _) _ _); first | refine wQ ?_ | refine wF ?_ | refine wG ?_ | refine wT ?_ | refine wM ?_ | refine wS ?_ | refine wP ?_)
  clear hF
  repeat refine evDone ?_
  try (show AW _ _ _ _ _)
  repeat refine AW.seq ?_
  refine AW.reg ?_
  have hF := hnl
  repeat ((with_reducible show evIs _ (_ :: _) _ _); first | refine wQ ?_ | refine wF ?_ | refine wG ?_ | refine wT ?_ | refine wM ?_ | refine wS ?_ | refine wP ?_)
  clear hF
  repeat refine evDone ?_
  try (show AW _ _ _ _ _)
  refine AW.ret ⟨by simp [resP, a16_res, ARes.op, hnl], [(N + 2, ⟨2, true, [.agg [.bool true, .hdr (N + 500) 0 0]]⟩), (N + 500, ⟨2, false, []⟩)], N + 1000, [.ptr (N + 2) 0 0], ⟨rfl, rfl, rfl⟩, by omega, by simp, rfl, by simp, ?_⟩
  simp only [resV, a16_res, List.map_cons, List.map_nil, ARes.op]
  refine Fit.mk _ _ _ (by simp [hnl, conv2, newEmp, convs_refl, convs, conv]) (by simp [hnl, heapFit, newEmp, conv2s, conv2, convs_refl, convs, conv]) (by intro q hq; first | (simp at hq; done) | (simp at hq; omega) | (simp at hq; simp; omega))
theorem f26 (xs : List Item) (hl : xs.length ≤ 200) : ACall Try.prog 26 [wv xs] (· = .sl (.own 2) (xs.map Item.av)) := by
  have hby : xs.length * 16 ≤ 140737488355328 ∧ xs.length ≤ 9223372036854775807 ∧ (xs.map Item.av).take xs.length = xs.map Item.av := ⟨by omega, by omega, List.take_of_length_le (by simp)⟩
  have hcc : ∀ v ∈ xs.map Item.av, (cellsOf v).length = 2 := fun v hv => by obtain ⟨y, _, rfl⟩ := List.mem_map.1 hv; simp
  simp only [wv, items]
  refine a26_of (by simp) ?_
  repeat refine AW.seq ?_
  refine AW.reg ?_
  have hF := True.intro
  repeat ((with_reducible show evIs _ (_ :: _) _ _); first | refine wQ ?_ | refine wF ?_ | refine wG ?_ | refine wT ?_ | refine wM ?_ | refine wS ?_ | refine wP ?_)
  clear hF
  repeat refine evDone ?_
  try (show AW _ _ _ _ _)
  repeat refine AW.seq ?_
  refine AW.reg ?_
  have hF := True.intro
  repeat ((with_reducible show evIs _ (_ :: _) _ _); first | refine wQ ?_ | refine wF ?_ | refine wG ?_ | refine wT ?_ | refine wM ?_ | refine wS ?_ | refine wP ?_)
  clear hF
  repeat refine evDone ?_
  try (show AW _ _ _ _ _)
  repeat refine AW.seq ?_
  refine AW.condF (by simp []) (by simp []) ?_
  refine AW.skip ?_
  show AW _ _ _ _ _
  repeat refine AW.seq ?_
  refine AW.reg ?_
  have hF := And.intro (hby) (eq_true hcc)
  repeat ((with_reducible show evIs _ (_ :: _) _ _); first | refine wQ ?_ | refine wF ?_ | refine wG ?_ | refine wT ?_ | refine wM ?_ | refine wS ?_ | refine wP ?_)
  clear hF
  repeat refine evDone ?_
  try (show AW _ _ _ _ _)
  repeat refine AW.seq ?_
  refine AW.reg ?_
  have hF := hby
  repeat ((with_reducible show evIs _ (_ :: _) _ _); first | refine wQ ?_ | refine wF ?_ | refine wG ?_ | refine wT ?_ | refine wM ?_ | refine wS ?_ | refine wP ?_)
  clear hF
  repeat refine evDone ?_
  try (show AW _ _ _ _ _)
  refine AW.ret (retI rfl ?_)
  simp [hby.2.2, a26_res, resOk, resP, resV, ARes.op, R2s, R2, R1s, R1, closeOk, closeV]
theorem f24 (xs : List Item) (hl : xs.length ≤ 200) : ACall Try.prog 24 [wv xs] (· = .int .i64 xs.length) := by
  have h26 := f26 xs hl
  have hss : scs (xs.map Item.av) = true := items_scs xs
  have hcl := items_cl xs
  simp only [wv, items] at h26 ⊢
  refine a24_of (by simp) ?_
  repeat refine AW.seq ?_
  refine AW.reg ?_
  have hF := True.intro
  repeat ((with_reducible show evIs _ (_ :: _) _ _); first | refine wQ ?_ | refine wF ?_ | refine wG ?_ | refine wT ?_ | refine wM ?_ | refine wS ?_ | refine wP ?_)
  clear hF
  repeat refine evDone ?_
  try (show AW _ _ _ _ _)
  repeat refine AW.seq ?_
  refine AW.reg ?_
  have hF := True.intro
  repeat ((with_reducible show evIs _ (_ :: _) _ _); first | refine wQ ?_ | refine wF ?_ | refine wG ?_ | refine wT ?_ | refine wM ?_ | refine wS ?_ | refine wP ?_)
  clear hF
  repeat refine evDone ?_
  try (show AW _ _ _ _ _)
  have hF := And.intro (hss) (hcl)
  refine wC (hA := h26) ?_
  clear hF
  have hF := True.intro
  repeat ((with_reducible show evIs _ (_ :: _) _ _); first | refine wQ ?_ | refine wF ?_ | refine wG ?_ | refine wT ?_ | refine wM ?_ | refine wS ?_ | refine wP ?_)
  clear hF
  repeat refine evDone ?_
  try (show AW _ _ _ _ _)
  refine AW.ret (retI rfl ?_)
  simp [a24_res, resOk, resP, resV, ARes.op, R2s, R2, R1s, R1, closeOk, closeV]
theorem f23z : ACall Try.prog 23 [wv []] (· = .tup [.agg [.int .i64 0, .int .i64 0], .bool false]) := by
  simp only [wv, items, List.map_nil]
  refine a23_of (by simp) ?_
  repeat refine AW.seq ?_
  refine AW.reg ?_
  have hF := True.intro
  repeat ((with_reducible show evIs _ (_ :: _) _ _); first | refine wQ ?_ | refine wF ?_ | refine wG ?_ | refine wT ?_ | refine wM ?_ | refine wS ?_ | refine wP ?_)
  clear hF
  repeat refine evDone ?_
  try (show AW _ _ _ _ _)
  repeat refine AW.seq ?_
  refine AW.reg ?_
  have hF := True.intro
  repeat ((with_reducible show evIs _ (_ :: _) _ _); first | refine wQ ?_ | refine wF ?_ | refine wG ?_ | refine wT ?_ | refine wM ?_ | refine wS ?_ | refine wP ?_)
  clear hF
  repeat refine evDone ?_
  try (show AW _ _ _ _ _)
  repeat refine AW.seq ?_
  refine AW.condT (by simp []) (by simp []) ?_
  repeat refine AW.seq ?_
  refine AW.reg ?_
  have hF := True.intro
  repeat ((with_reducible show evIs _ (_ :: _) _ _); first | refine wQ ?_ | refine wF ?_ | refine wG ?_ | refine wT ?_ | refine wM ?_ | refine wS ?_ | refine wP ?_)
  clear hF
  repeat refine evDone ?_
  try (show AW _ _ _ _ _)
  refine AW.ret (retI rfl ?_)
  simp [a23_res, resOk, resP, resV, ARes.op, R2s, R2, R1s, R1, closeOk, closeV]
theorem f23 (x : Item) (xs : List Item) : ACall Try.prog 23 [wv (x :: xs)] (· = .tup [x.av, .bool true]) := by
  obtain ⟨x1, x2⟩ := x
  have hp : ¬ (xs.length : Int) + 1 = 0 := by omega
  have hq : ((xs.length : Int) + 1 == 0) = false := by simp; omega
  have hr : (0 : Int) < (xs.length : Int) + 1 := by omega
  simp only [wv, items, List.map_cons, Item.av]
  refine a23_of (by simp) ?_
  repeat refine AW.seq ?_
  refine AW.reg ?_
  have hF := True.intro
  repeat ((with_reducible show evIs _ (_ :: _) _ _); first | refine wQ ?_ | refine wF ?_ | refine wG ?_ | refine wT ?_ | refine wM ?_ | refine wS ?_ | refine wP ?_)
  clear hF
  repeat refine evDone ?_
  try (show AW _ _ _ _ _)
  repeat refine AW.seq ?_
  refine AW.reg ?_
  have hF := And.intro (hp) (hq)
  repeat ((with_reducible show evIs _ (_ :: _) _ _); first | refine wQ ?_ | refine wF ?_ | refine wG ?_ | refine wT ?_ | refine wM ?_ | refine wS ?_ | refine wP ?_)
  clear hF
  repeat refine evDone ?_
  try (show AW _ _ _ _ _)
  repeat refine AW.seq ?_
  refine AW.condF (by simp [hp, hq]) (by simp [hp, hq]) ?_
  refine AW.skip ?_
  show AW _ _ _ _ _
  repeat refine AW.seq ?_
  refine AW.reg ?_
  have hF := And.intro (hr) (elemAt.eq_1)
  repeat ((with_reducible show evIs _ (_ :: _) _ _); first | refine wQ ?_ | refine wF ?_ | refine wG ?_ | refine wT ?_ | refine wM ?_ | refine wS ?_ | refine wP ?_)
  clear hF
  repeat refine evDone ?_
  try (show AW _ _ _ _ _)
  refine AW.ret (retI rfl ?_)
  simp [a23_res, resOk, resP, resV, ARes.op, R2s, R2, R1s, R1, closeOk, closeV]
theorem f22z : ACall Try.prog 22 [qv [] true] (· = .tup [.agg [.int .i64 0, .int .i64 0], .bool false]) := by
  have h28 := f28 [] true
  simp only [qv, items, List.map_nil] at h28 ⊢
  refine a22_of (by simp) ?_
  repeat refine AW.seq ?_
  refine AW.reg ?_
  have hF := True.intro
  repeat ((with_reducible show evIs _ (_ :: _) _ _); first | refine wQ ?_ | refine wF ?_ | refine wG ?_ | refine wT ?_ | refine wM ?_ | refine wS ?_ | refine wP ?_)
  clear hF
  repeat refine evDone ?_
  try (show AW _ _ _ _ _)
  repeat refine AW.seq ?_
  refine AW.reg ?_
  have hF := True.intro
  repeat ((with_reducible show evIs _ (_ :: _) _ _); first | refine wQ ?_ | refine wF ?_ | refine wG ?_ | refine wT ?_ | refine wM ?_ | refine wS ?_ | refine wP ?_)
  clear hF
  repeat refine evDone ?_
  try (show AW _ _ _ _ _)
  have hF := True.intro
  refine wC (hA := h28) ?_
  clear hF
  have hF := True.intro
  repeat ((with_reducible show evIs _ (_ :: _) _ _); first | refine wQ ?_ | refine wF ?_ | refine wG ?_ | refine wT ?_ | refine wM ?_ | refine wS ?_ | refine wP ?_)
  clear hF
  repeat refine evDone ?_
  try (show AW _ _ _ _ _)
  repeat refine AW.seq ?_
  refine AW.condT (by simp []) (by simp []) ?_
  repeat refine AW.seq ?_
  refine AW.reg ?_
  have hF := True.intro
  repeat ((with_reducible show evIs _ (_ :: _) _ _); first | refine wQ ?_ | refine wF ?_ | refine wG ?_ | refine wT ?_ | refine wM ?_ | refine wS ?_ | refine wP ?_)
  clear hF
  repeat refine evDone ?_
  try (show AW _ _ _ _ _)
  refine AW.ret (retI rfl ?_)
  simp [a22_res, resOk, resP, resV, ARes.op, R2s, R2, R1s, R1, closeOk, closeV]
theorem f20 (xs : List Item) (hl : xs.length ≤ 200) : ACall Try.prog 20 [items xs, items xs] (· = .bool true) := by
  simp only [items]
  refine a20_of (by simp) ?_
  repeat refine AW.seq ?_
  refine AW.reg ?_
  have hF := True.intro
  repeat ((with_reducible show evIs _ (_ :: _) _ _); first | refine wQ ?_ | refine wF ?_ | refine wG ?_ | refine wT ?_ | refine wM ?_ | refine wS ?_ | refine wP ?_)
  clear hF
  repeat refine evDone ?_
  try (show AW _ _ _ _ _)
  repeat refine AW.seq ?_
  refine AW.reg ?_
  have hF := True.intro
  repeat ((with_reducible show evIs _ (_ :: _) _ _); first | refine wQ ?_ | refine wF ?_ | refine wG ?_ | refine wT ?_ | refine wM ?_ | refine wS ?_ | refine wP ?_)
  clear hF
  repeat refine evDone ?_
  try (show AW _ _ _ _ _)
  repeat refine AW.seq ?_
  refine AW.condF (by simp []) (by simp []) ?_
  refine AW.skip ?_
  show AW _ _ _ _ _
  repeat refine AW.seq ?_
  refine AW.reg ?_
  have hF := True.intro
  repeat ((with_reducible show evIs _ (_ :: _) _ _); first | refine wQ ?_ | refine wF ?_ | refine wG ?_ | refine wT ?_ | refine wM ?_ | refine wS ?_ | refine wP ?_)
  clear hF
  repeat refine evDone ?_
  try (show AW _ _ _ _ _)
  repeat refine AW.seq ?_
  refine AW.block ?_
  refine AW.loop (fun g : Nat × Nat => g.1 ≤ xs.length) (fun g => mkS [(0, .sl .fro (xs.map Item.av)), (1, .sl .fro (xs.map Item.av)), (12, .sl .fro (xs.map Item.av)), (13, .int .i64 xs.length), (14, .int .i64 g.1)] [] g.2) (fun g => xs.length - g.1) (0, 0) (by simp) ?_ ?_
  · refine Fit.mk _ _ _ (by simp [conv2, newEmp, convs_refl, convs, conv]) (by simp [heapFit, newEmp, conv2s, conv2, convs_refl, convs, conv]) (by intro q hq; first | (simp at hq; done) | (simp at hq; omega) | (simp at hq; simp; omega))
  · rintro ⟨i, n⟩ hi
    dsimp only at hi ⊢
    have hnl : ∀ k, (n + k < n) = False := fun k => eq_false (by omega)
    repeat refine AW.seq ?_
    refine AW.reg ?_
    by_cases hlt : i < xs.length
    · obtain ⟨x, hx⟩ : ∃ x, xs[i]? = some x := ⟨_, List.getElem?_eq_getElem hlt⟩
      have he := elem_map (f := Item.av) hx
      obtain ⟨x1, x2⟩ := x
      simp only [Item.av] at he
      have hF := hlt
      repeat ((with_reducible show evIs _ (_ :: _) _ _); first | refine wQ ?_ | refine wF ?_ | refine wG ?_ | refine wT ?_ | refine wM ?_ | refine wS ?_ | refine wP ?_)
      clear hF
      repeat refine evDone ?_
      try (show AW _ _ _ _ _)
      repeat refine AW.seq ?_
      refine AW.condT (by simp []) (by simp []) ?_
      refine AW.skip ?_
      show AW _ _ _ _ _
      refine AW.seq (AW.block ?_)
      repeat refine AW.seq ?_
      refine AW.reg ?_
      have hF := And.intro (hlt) (And.intro (he) (hnl))
      repeat ((with_reducible show evIs _ (_ :: _) _ _); first | refine wQ ?_ | refine wF ?_ | refine wG ?_ | refine wT ?_ | refine wM ?_ | refine wS ?_ | refine wP ?_)
      clear hF
      repeat refine evDone ?_
      try (show AW _ _ _ _ _)
      repeat refine AW.seq ?_
      refine AW.draw ?_
      have hF := And.intro (hlt) (And.intro (he) (hnl))
      repeat (first | refine wD1 ?_ | refine wD2 ?_ | refine wE1 ?_ | refine wE2 ?_ | (refine wE3 ?_; intro _) | (refine wE4 ?_; intro _) | refine wN ?_ | ((with_reducible show evIs _ (_ :: _) _ _); first | refine wQ ?_ | refine wF ?_ | refine wG ?_ | refine wT ?_ | refine wM ?_ | refine wS ?_ | refine wP ?_ | refine wJ ?_ | refine wX ?_ | refine wY ?_ | refine wZ ?_))
      clear hF
      repeat refine evDone ?_
      try (show AW _ _ _ _ _)
      repeat refine AW.seq ?_
      refine AW.condF (by simp []) (by simp []) ?_
      refine AW.skip ?_
      show AW _ _ _ _ _
      refine AW.reg ?_
      have hw : IntKind.i64.wrap ((i : Int) + 1) = (i : Int) + 1 := i64_in _ ⟨by omega, by omega⟩
      have hF := hw
      repeat ((with_reducible show evIs _ (_ :: _) _ _); first | refine wQ ?_ | refine wF ?_ | refine wG ?_ | refine wT ?_ | refine wM ?_ | refine wS ?_ | refine wP ?_)
      clear hF
      repeat refine evDone ?_
      try (show AW _ _ _ _ _)
      refine ⟨(i + 1, n + 60), by dsimp only; omega, by dsimp only; omega, ?_⟩
      refine Fit.mk _ _ _ (by simp [hw, hnl, conv2, newEmp, convs_refl, convs, conv]) (by simp [hw, hnl, heapFit, newEmp, conv2s, conv2, convs_refl, convs, conv]) (by intro q hq; first | (simp at hq; done) | (simp at hq; omega) | (simp at hq; simp; omega))
    · have hlt2 : ¬ (i : Int) < xs.length := by omega
      have hF := And.intro (hlt) (hlt2)
      repeat ((with_reducible show evIs _ (_ :: _) _ _); first | refine wQ ?_ | refine wF ?_ | refine wG ?_ | refine wT ?_ | refine wM ?_ | refine wS ?_ | refine wP ?_)
      clear hF
      repeat refine evDone ?_
      try (show AW _ _ _ _ _)
      repeat refine AW.seq ?_
      refine AW.condF (by simp []) (by simp []) ?_
      refine AW.exit ?_
      show AW _ _ _ _ _
      repeat refine AW.seq ?_
      refine AW.reg ?_
      have hF := True.intro
      repeat ((with_reducible show evIs _ (_ :: _) _ _); first | refine wQ ?_ | refine wF ?_ | refine wG ?_ | refine wT ?_ | refine wM ?_ | refine wS ?_ | refine wP ?_)
      clear hF
      repeat refine evDone ?_
      try (show AW _ _ _ _ _)
      refine AW.ret (retI rfl ?_)
      simp [a20_res, resOk, resP, resV, ARes.op, R2s, R2, R1s, R1, closeOk, closeV]
end Go.Proofs.Ytljahaeachdjmaa

set_option linter.unusedSimpArgs false
set_option linter.unusedVariables false
set_option maxHeartbeats 8000000
namespace Go.Proofs.Ytljahaeachdjmaa
open Go Go.Amb Go.IntWalk

/-- An item is put in its place. -/
def insF (x : Item) : List Item → List Item
  | [] => [x]
  | y :: l => if bef x y then x :: y :: l else y :: insF x l
def addR (ws : List Item) (x : Item) : List Item × Int := if ws.any (fun y => y.id == x.id) then (ws, 9) else (insF x ws, 0)
/-- What a loop has done, and what remains. -/
def finF (x : Item) (o : List Item) (d : Bool) (l : List Item) : List Item := if d then o ++ l else o ++ insF x l
theorem insF_len (x : Item) : ∀ l, (insF x l).length = l.length + 1
  | [] => rfl
  | y :: l => by
    unfold insF
    split
    · simp
    · simp [insF_len x l]
/-- What a method of the reference that changes the queue leaves. -/
def RPost (N B H : Nat) (ys : List Item) (r : AV) : List (Nat × Blk) → Nat → AV → Prop := fun H1 n' v => ∃ H', (H' = H ∨ N ≤ H') ∧ H' < n' ∧ H' ≠ B ∧ H1 = Ws B H' ys ∧ v = r
theorem drop_at {l : List Item} {i : Nat} {y : Item} (h : l[i]? = some y) : l.drop i = y :: l.drop (i + 1) := by
  obtain ⟨h1, rfl⟩ := List.getElem?_eq_some_iff.1 h
  exact List.drop_eq_getElem_cons h1
theorem f18 (N B H : Nat) (hB : B < N) (hH : H < N) (hBH : B ≠ H) (ws : List Item) (x : Item) (hl : ws.length ≤ 190) :
    BCall Try.prog 18 (Ws B H ws) N [.ptr B 0 0, x.av] (RPost N B H (addR ws x).1 (.int .i64 (addR ws x).2)) := by
  obtain ⟨H0, hH0⟩ : ∃ H0, H0 = Ws B H ws := ⟨_, rfl⟩
  have hkB : (mkH H0 B).isSome = true := by rw [hH0]; simp [Ws]
  have hkH : (mkH H0 H).isSome = true := by rw [hH0]; simp [Ws, show ¬ H = B by omega]
  rw [← hH0]
  simp only [Item.av]
  refine bcall_coded a18_ok (by simp) ?_
  rw [show mkS (argT 0 [.ptr B 0 0, .agg [.int .i64 x.due, .int .i64 x.id]]) H0 N = mkS [(0, .ptr B 0 0), (1, .agg [.int .i64 x.due, .int .i64 x.id])] [(B, ⟨2, true, [.agg [.bool true, .hdr H 0 ws.length]]⟩), (H, ⟨2, false, ws.map Item.av⟩)] N by rw [hH0]; rfl]
  rw [mkS_eq]
  obtain ⟨R, hR⟩ : ∃ R, R = insF x ws := ⟨_, rfl⟩
  have hRl := insF_len x ws
  rw [← hR] at hRl
  have hN : (B = H) = False ∧ (H = B) = False ∧ B < N ∧ (∀ qz, B < N + qz) ∧ (∀ qz, (B = N + qz) = False) ∧ (∀ qz, (N + qz = B) = False) ∧ (B = N) = False ∧ (N = B) = False ∧ H < N ∧ (∀ qz, H < N + qz) ∧ (∀ qz, (H = N + qz) = False) ∧ (∀ qz, (N + qz = H) = False) ∧ (H = N) = False ∧ (N = H) = False ∧ (∀ qz, (N + qz < N) = False) := ⟨eq_false (by omega), eq_false (by omega), by omega, fun qz => by omega, fun qz => eq_false (by omega), fun qz => eq_false (by omega), eq_false (by omega), eq_false (by omega), by omega, fun qz => by omega, fun qz => eq_false (by omega), fun qz => eq_false (by omega), eq_false (by omega), eq_false (by omega), fun qz => eq_false (by omega)⟩
  have hBH1 : ¬ B = H := hBH
  repeat refine AW.seq ?_
  refine AW.reg ?_
  have hF := hN
  repeat ((with_reducible show evIs _ (_ :: _) _ _); first | refine wQ ?_ | refine wF ?_ | refine wG ?_ | refine wT ?_ | refine wM ?_ | refine wS ?_ | refine wP ?_)
  clear hF
  repeat refine evDone ?_
  try (show AW _ _ _ _ _)
  repeat refine AW.seq ?_
  refine AW.reg ?_
  have hF := hN
  repeat ((with_reducible show evIs _ (_ :: _) _ _); first | refine wQ ?_ | refine wF ?_ | refine wG ?_ | refine wT ?_ | refine wM ?_ | refine wS ?_ | refine wP ?_)
  clear hF
  repeat refine evDone ?_
  try (show AW _ _ _ _ _)
  repeat refine AW.seq ?_
  refine AW.condF (by simp []) (by simp []) ?_
  refine AW.skip ?_
  show AW _ _ _ _ _
  repeat refine AW.seq ?_
  refine AW.reg ?_
  have hF := hN
  repeat ((with_reducible show evIs _ (_ :: _) _ _); first | refine wQ ?_ | refine wF ?_ | refine wG ?_ | refine wT ?_ | refine wM ?_ | refine wS ?_ | refine wP ?_)
  clear hF
  repeat refine evDone ?_
  try (show AW _ _ _ _ _)
  repeat refine AW.seq ?_
  refine AW.reg ?_
  have hF := hN
  repeat ((with_reducible show evIs _ (_ :: _) _ _); first | refine wQ ?_ | refine wF ?_ | refine wG ?_ | refine wT ?_ | refine wM ?_ | refine wS ?_ | refine wP ?_)
  clear hF
  repeat refine evDone ?_
  try (show AW _ _ _ _ _)
  repeat refine AW.seq ?_
  refine AW.reg ?_
  have hF := hN
  repeat ((with_reducible show evIs _ (_ :: _) _ _); first | refine wQ ?_ | refine wF ?_ | refine wG ?_ | refine wT ?_ | refine wM ?_ | refine wS ?_ | refine wP ?_)
  clear hF
  repeat refine evDone ?_
  try (show AW _ _ _ _ _)
  repeat refine AW.seq ?_
  refine AW.block ?_
  refine AW.loop (fun g : Nat × List Item × Bool × Nat × Nat => g.1 ≤ ws.length ∧ finF x g.2.1 g.2.2.1 (ws.drop g.1) = R ∧ (∀ j, j < g.1 → ∀ y, ws[j]? = some y → ¬ y.id = x.id) ∧ N < g.2.2.2.1 ∧ g.2.2.2.1 < g.2.2.2.2 ∧ N + 100 ≤ g.2.2.2.2 ∧ g.2.1.length ≤ 2 * g.1) (fun g => mkS [(0, .ptr B 0 0), (3, .ptr N 0 0), (4, .int .i64 0), (5, .hdr g.2.2.2.1 0 g.2.1.length), (6, .bool g.2.2.1), (21, .hdr H 0 ws.length), (22, .int .i64 ws.length), (23, .int .i64 g.1)] [(B, ⟨2, true, [.agg [.bool true, .hdr H 0 ws.length]]⟩), (H, ⟨2, false, ws.map Item.av⟩), (N, ⟨2, true, [.agg [.int .i64 x.due, .int .i64 x.id]]⟩), (g.2.2.2.1, ⟨2, false, g.2.1.map Item.av⟩)] g.2.2.2.2) (fun g => ws.length - g.1) (0, [], false, N + 50, N + 100) ⟨by simp, by simp [finF, hR], fun j hj => absurd hj (by simp), by simp, by simp, by simp, by simp⟩ ?_ ?_
  · refine Fit.mk _ _ _ (by simp [hN, conv2, newEmp, convs_refl, convs, conv]) (by simp [hN, heapFit, newEmp, conv2s, conv2, convs_refl, convs, conv]) (by intro q hq; first | (simp at hq; done) | (simp at hq; omega) | (simp at hq; simp; omega))
  rintro ⟨i, o, d, r, n⟩ ⟨hi, hfin, hno, hr1, hr2, hn, hol⟩
  dsimp only at hi hfin hno hr1 hr2 hn hol ⊢
  have hD : (B = H) = False ∧ (B = N) = False ∧ (B = r) = False ∧ (H = B) = False ∧ (H = N) = False ∧ (H = r) = False ∧ (N = B) = False ∧ (N = H) = False ∧ (N = r) = False ∧ (r = B) = False ∧ (r = H) = False ∧ (r = N) = False ∧ B < n ∧ (∀ qz, B < n + qz) ∧ (∀ qz, (B = n + qz) = False) ∧ (∀ qz, (n + qz = B) = False) ∧ (B = n) = False ∧ (n = B) = False ∧ H < n ∧ (∀ qz, H < n + qz) ∧ (∀ qz, (H = n + qz) = False) ∧ (∀ qz, (n + qz = H) = False) ∧ (H = n) = False ∧ (n = H) = False ∧ N < n ∧ (∀ qz, N < n + qz) ∧ (∀ qz, (N = n + qz) = False) ∧ (∀ qz, (n + qz = N) = False) ∧ (N = n) = False ∧ (n = N) = False ∧ r < n ∧ (∀ qz, r < n + qz) ∧ (∀ qz, (r = n + qz) = False) ∧ (∀ qz, (n + qz = r) = False) ∧ (r = n) = False ∧ (n = r) = False ∧ (∀ qz, (n + qz < n) = False) := ⟨eq_false (by omega), eq_false (by omega), eq_false (by omega), eq_false (by omega), eq_false (by omega), eq_false (by omega), eq_false (by omega), eq_false (by omega), eq_false (by omega), eq_false (by omega), eq_false (by omega), eq_false (by omega), by omega, fun qz => by omega, fun qz => eq_false (by omega), fun qz => eq_false (by omega), eq_false (by omega), eq_false (by omega), by omega, fun qz => by omega, fun qz => eq_false (by omega), fun qz => eq_false (by omega), eq_false (by omega), eq_false (by omega), by omega, fun qz => by omega, fun qz => eq_false (by omega), fun qz => eq_false (by omega), eq_false (by omega), eq_false (by omega), by omega, fun qz => by omega, fun qz => eq_false (by omega), fun qz => eq_false (by omega), eq_false (by omega), eq_false (by omega), fun qz => eq_false (by omega)⟩
  by_cases hlt : i < ws.length
  · obtain ⟨y, hy⟩ : ∃ y, ws[i]? = some y := ⟨_, List.getElem?_eq_getElem hlt⟩
    have he := elem_map (f := Item.av) hy
    have hdr := drop_at hy
    have h32 := f32 x y
    simp only [Item.av] at he h32
    have hby : (o.length + 1) * 16 ≤ 140737488355328 ∧ o.length + 1 ≤ 9223372036854775807 ∧ (o.length + 1 + 1) * 16 ≤ 140737488355328 ∧ o.length + 1 + 1 ≤ 9223372036854775807 := ⟨by omega, by omega, by omega, by omega⟩
    repeat refine AW.seq ?_
    refine AW.reg ?_
    have hF := And.intro (hlt) (hD)
    repeat ((with_reducible show evIs _ (_ :: _) _ _); first | refine wQ ?_ | refine wF ?_ | refine wG ?_ | refine wT ?_ | refine wM ?_ | refine wS ?_ | refine wP ?_)
    clear hF
    repeat refine evDone ?_
    try (show AW _ _ _ _ _)
    repeat refine AW.seq ?_
    refine AW.condT (by simp []) (by simp []) ?_
    refine AW.skip ?_
    show AW _ _ _ _ _
    refine AW.seq (AW.block ?_)
    repeat refine AW.seq ?_
    refine AW.reg ?_
    have hF := And.intro (hlt) (And.intro (he) (hD))
    repeat ((with_reducible show evIs _ (_ :: _) _ _); first | refine wQ ?_ | refine wF ?_ | refine wG ?_ | refine wT ?_ | refine wM ?_ | refine wS ?_ | refine wP ?_)
    clear hF
    repeat refine evDone ?_
    try (show AW _ _ _ _ _)
    repeat refine AW.seq ?_
    refine AW.reg ?_
    by_cases hyi : y.id = x.id
    · have hyi2 : (y.id == x.id) = true := by simp [hyi]
      have ha : addR ws x = (ws, 9) := by
        unfold addR
        rw [if_pos]
        rw [List.any_eq_true]
        exact ⟨y, List.mem_of_getElem? hy, by simpa using hyi⟩
      rw [ha]
      have hF := And.intro (hyi2) (hD)
      repeat ((with_reducible show evIs _ (_ :: _) _ _); first | refine wQ ?_ | refine wF ?_ | refine wG ?_ | refine wT ?_ | refine wM ?_ | refine wS ?_ | refine wP ?_)
      clear hF
      repeat refine evDone ?_
      try (show AW _ _ _ _ _)
      repeat refine AW.seq ?_
      refine AW.condT (by simp [hyi2]) (by simp [hyi2]) ?_
      repeat refine AW.seq ?_
      refine AW.reg ?_
      have hF := hD
      repeat ((with_reducible show evIs _ (_ :: _) _ _); first | refine wQ ?_ | refine wF ?_ | refine wG ?_ | refine wT ?_ | refine wM ?_ | refine wS ?_ | refine wP ?_)
      clear hF
      repeat refine evDone ?_
      try (show AW _ _ _ _ _)
      refine AW.ret ⟨by simp [resP, a18_res, ARes.op, hD, hN], [(B, ⟨2, true, [.agg [.bool true, .hdr H 0 ws.length]]⟩), (H, ⟨2, false, ws.map Item.av⟩)], n + 200, [.int .i64 9], ⟨H, .inl rfl, by omega, fun e => hBH e.symm, rfl, rfl⟩, by omega, (by intro p hp; simp at hp; rcases hp with rfl | rfl <;> first | (left; exact hkB) | (left; exact hkH) | (right; dsimp only; omega)), rfl, by simp, ?_⟩
      simp only [resV, a18_res, List.map_cons, List.map_nil, ARes.op]
      refine Fit.mk _ _ _ (by simp [hD, hN, conv2, newEmp, convs_refl, convs, conv]) (by simp [hD, hN, heapFit, newEmp, conv2s, conv2, convs_refl, convs, conv]) (by intro q hq; first | (simp at hq; done) | (simp at hq; omega) | (simp at hq; simp; omega))
    · have hyi2 : (y.id == x.id) = false := by simp [hyi]
      have hno' : ∀ j, j < i + 1 → ∀ z, ws[j]? = some z → ¬ z.id = x.id := by
        intro j hj z hz
        by_cases hji : j = i
        · subst hji; rw [hy] at hz; injection hz with hz; rw [← hz]; exact hyi
        · exact hno j (by omega) z hz
      have hw : IntKind.i64.wrap ((i : Int) + 1) = (i : Int) + 1 := i64_in _ ⟨by omega, by omega⟩
      rw [hdr] at hfin
      have hf1 : B < n + 200 ∧ H < n + 200 ∧ N < n + 200 ∧ n + 47 < n + 200 := ⟨by omega, by omega, by omega, by omega⟩
      have hF := And.intro (hyi) (And.intro (hyi2) (hD))
      repeat ((with_reducible show evIs _ (_ :: _) _ _); first | refine wQ ?_ | refine wF ?_ | refine wG ?_ | refine wT ?_ | refine wM ?_ | refine wS ?_ | refine wP ?_)
      clear hF
      repeat refine evDone ?_
      try (show AW _ _ _ _ _)
      repeat refine AW.seq ?_
      refine AW.condF (by simp [hyi, hyi2]) (by simp [hyi, hyi2]) ?_
      refine AW.skip ?_
      show AW _ _ _ _ _
      repeat refine AW.seq ?_
      refine AW.reg ?_
      cases d with
      | true =>
        have hF := hD
        repeat ((with_reducible show evIs _ (_ :: _) _ _); first | refine wQ ?_ | refine wF ?_ | refine wG ?_ | refine wT ?_ | refine wM ?_ | refine wS ?_ | refine wP ?_)
        clear hF
        repeat refine evDone ?_
        try (show AW _ _ _ _ _)
        repeat refine AW.seq ?_
        refine AW.condF (by simp []) (by simp []) ?_
        refine AW.skip ?_
        show AW _ _ _ _ _
        refine AW.reg ?_
        have hF := And.intro (hby) (hD)
        repeat ((with_reducible show evIs _ (_ :: _) _ _); first | refine wQ ?_ | refine wF ?_ | refine wG ?_ | refine wT ?_ | refine wM ?_ | refine wS ?_ | refine wP ?_)
        clear hF
        repeat refine evDone ?_
        try (show AW _ _ _ _ _)
        show AW _ _ _ _ _
        refine AW.reg ?_
        have hF := And.intro (hw) (hD)
        repeat ((with_reducible show evIs _ (_ :: _) _ _); first | refine wQ ?_ | refine wF ?_ | refine wG ?_ | refine wT ?_ | refine wM ?_ | refine wS ?_ | refine wP ?_)
        clear hF
        repeat refine evDone ?_
        try (show AW _ _ _ _ _)
        refine ⟨(i + 1, o ++ [y], true, n + 47, n + 200), ⟨by dsimp only; omega, ?_, hno', by dsimp only; omega, by dsimp only; omega, by dsimp only; omega, by simp; omega⟩, by dsimp only; omega, ?_⟩
        · rw [← hfin]; simp [finF]
        refine Fit.mk _ _ _ (by simp [hw, hD, hf1, Item.av, conv2, newEmp, convs_refl, convs, conv]) (by simp [hw, hD, hf1, Item.av, heapFit, newEmp, conv2s, conv2, convs_refl, convs, conv]) (by intro q hq; first | (simp at hq; done) | (simp at hq; omega) | (simp at hq; simp; omega))
      | false =>
        cases hc : bef x y with
        | false =>
          rw [hc] at h32
          have hF := hD
          repeat ((with_reducible show evIs _ (_ :: _) _ _); first | refine wQ ?_ | refine wF ?_ | refine wG ?_ | refine wT ?_ | refine wM ?_ | refine wS ?_ | refine wP ?_)
          clear hF
          repeat refine evDone ?_
          try (show AW _ _ _ _ _)
          have hF := hD
          refine wC (hA := h32) ?_
          clear hF
          have hF := hD
          repeat ((with_reducible show evIs _ (_ :: _) _ _); first | refine wQ ?_ | refine wF ?_ | refine wG ?_ | refine wT ?_ | refine wM ?_ | refine wS ?_ | refine wP ?_)
          clear hF
          repeat refine evDone ?_
          try (show AW _ _ _ _ _)
          repeat refine AW.seq ?_
          refine AW.condF (by simp []) (by simp []) ?_
          refine AW.skip ?_
          show AW _ _ _ _ _
          refine AW.reg ?_
          have hF := And.intro (hby) (hD)
          repeat ((with_reducible show evIs _ (_ :: _) _ _); first | refine wQ ?_ | refine wF ?_ | refine wG ?_ | refine wT ?_ | refine wM ?_ | refine wS ?_ | refine wP ?_)
          clear hF
          repeat refine evDone ?_
          try (show AW _ _ _ _ _)
          show AW _ _ _ _ _
          refine AW.reg ?_
          have hF := And.intro (hw) (hD)
          repeat ((with_reducible show evIs _ (_ :: _) _ _); first | refine wQ ?_ | refine wF ?_ | refine wG ?_ | refine wT ?_ | refine wM ?_ | refine wS ?_ | refine wP ?_)
          clear hF
          repeat refine evDone ?_
          try (show AW _ _ _ _ _)
          refine ⟨(i + 1, o ++ [y], false, n + 47, n + 200), ⟨by dsimp only; omega, ?_, hno', by dsimp only; omega, by dsimp only; omega, by dsimp only; omega, by simp; omega⟩, by dsimp only; omega, ?_⟩
          · rw [← hfin]; simp [finF, insF, hc]
          refine Fit.mk _ _ _ (by simp [hw, hD, hf1, Item.av, conv2, newEmp, convs_refl, convs, conv]) (by simp [hw, hD, hf1, Item.av, heapFit, newEmp, conv2s, conv2, convs_refl, convs, conv]) (by intro q hq; first | (simp at hq; done) | (simp at hq; omega) | (simp at hq; simp; omega))
        | true =>
          rw [hc] at h32
          have hF := hD
          repeat ((with_reducible show evIs _ (_ :: _) _ _); first | refine wQ ?_ | refine wF ?_ | refine wG ?_ | refine wT ?_ | refine wM ?_ | refine wS ?_ | refine wP ?_)
          clear hF
          repeat refine evDone ?_
          try (show AW _ _ _ _ _)
          have hF := hD
          refine wC (hA := h32) ?_
          clear hF
          have hF := hD
          repeat ((with_reducible show evIs _ (_ :: _) _ _); first | refine wQ ?_ | refine wF ?_ | refine wG ?_ | refine wT ?_ | refine wM ?_ | refine wS ?_ | refine wP ?_)
          clear hF
          repeat refine evDone ?_
          try (show AW _ _ _ _ _)
          repeat refine AW.seq ?_
          refine AW.condT (by simp []) (by simp []) ?_
          repeat refine AW.seq ?_
          refine AW.reg ?_
          have hF := And.intro (hby) (hD)
          repeat ((with_reducible show evIs _ (_ :: _) _ _); first | refine wQ ?_ | refine wF ?_ | refine wG ?_ | refine wT ?_ | refine wM ?_ | refine wS ?_ | refine wP ?_)
          clear hF
          repeat refine evDone ?_
          try (show AW _ _ _ _ _)
          show AW _ _ _ _ _
          refine AW.reg ?_
          have hF := hD
          repeat ((with_reducible show evIs _ (_ :: _) _ _); first | refine wQ ?_ | refine wF ?_ | refine wG ?_ | refine wT ?_ | refine wM ?_ | refine wS ?_ | refine wP ?_)
          clear hF
          repeat refine evDone ?_
          try (show AW _ _ _ _ _)
          show AW _ _ _ _ _
          refine AW.reg ?_
          have hF := And.intro (hby) (hD)
          repeat ((with_reducible show evIs _ (_ :: _) _ _); first | refine wQ ?_ | refine wF ?_ | refine wG ?_ | refine wT ?_ | refine wM ?_ | refine wS ?_ | refine wP ?_)
          clear hF
          repeat refine evDone ?_
          try (show AW _ _ _ _ _)
          show AW _ _ _ _ _
          refine AW.reg ?_
          have hF := And.intro (hw) (hD)
          repeat ((with_reducible show evIs _ (_ :: _) _ _); first | refine wQ ?_ | refine wF ?_ | refine wG ?_ | refine wT ?_ | refine wM ?_ | refine wS ?_ | refine wP ?_)
          clear hF
          repeat refine evDone ?_
          try (show AW _ _ _ _ _)
          refine ⟨(i + 1, o ++ [x] ++ [y], true, n + 47, n + 200), ⟨by dsimp only; omega, ?_, hno', by dsimp only; omega, by dsimp only; omega, by dsimp only; omega, by simp; omega⟩, by dsimp only; omega, ?_⟩
          · rw [← hfin]; simp [finF, insF, hc]
          refine Fit.mk _ _ _ (by simp [hw, hD, hf1, Item.av, conv2, newEmp, convs_refl, convs, conv]) (by simp [hw, hD, hf1, Item.av, heapFit, newEmp, conv2s, conv2, convs_refl, convs, conv]) (by intro q hq; first | (simp at hq; done) | (simp at hq; omega) | (simp at hq; simp; omega))
  · have hlt2 : ¬ (i : Int) < ws.length := by omega
    have hie : i = ws.length := by omega
    subst hie
    have ha : addR ws x = (R, 0) := by
      unfold addR
      rw [if_neg, hR]
      rw [List.any_eq_true]
      rintro ⟨z, hz, hzi⟩
      obtain ⟨j, hj, rfl⟩ := List.getElem_of_mem hz
      exact hno j hj _ (List.getElem?_eq_getElem hj) (by simpa using hzi)
    rw [ha]
    rw [List.drop_eq_nil_of_le (Nat.le_refl _)] at hfin
    have hby : (o.length + 1) * 16 ≤ 140737488355328 ∧ o.length + 1 ≤ 9223372036854775807 := ⟨by omega, by omega⟩
    repeat refine AW.seq ?_
    refine AW.reg ?_
    have hF := And.intro (hlt) (And.intro (hlt2) (hD))
    repeat ((with_reducible show evIs _ (_ :: _) _ _); first | refine wQ ?_ | refine wF ?_ | refine wG ?_ | refine wT ?_ | refine wM ?_ | refine wS ?_ | refine wP ?_)
    clear hF
    repeat refine evDone ?_
    try (show AW _ _ _ _ _)
    repeat refine AW.seq ?_
    refine AW.condF (by simp []) (by simp []) ?_
    refine AW.exit ?_
    show AW _ _ _ _ _
    repeat refine AW.seq ?_
    refine AW.reg ?_
    have hF := hD
    repeat ((with_reducible show evIs _ (_ :: _) _ _); first | refine wQ ?_ | refine wF ?_ | refine wG ?_ | refine wT ?_ | refine wM ?_ | refine wS ?_ | refine wP ?_)
    clear hF
    repeat refine evDone ?_
    try (show AW _ _ _ _ _)
    cases d with
    | true =>
      have hoR : o = R := by rw [← hfin]; simp [finF]
      subst hoR
      repeat refine AW.seq ?_
      refine AW.condF (by simp []) (by simp []) ?_
      refine AW.skip ?_
      show AW _ _ _ _ _
      repeat refine AW.seq ?_
      refine AW.reg ?_
      have hF := hD
      repeat ((with_reducible show evIs _ (_ :: _) _ _); first | refine wQ ?_ | refine wF ?_ | refine wG ?_ | refine wT ?_ | refine wM ?_ | refine wS ?_ | refine wP ?_)
      clear hF
      repeat refine evDone ?_
      try (show AW _ _ _ _ _)
      repeat refine AW.seq ?_
      refine AW.reg ?_
      have hF := hD
      repeat ((with_reducible show evIs _ (_ :: _) _ _); first | refine wQ ?_ | refine wF ?_ | refine wG ?_ | refine wT ?_ | refine wM ?_ | refine wS ?_ | refine wP ?_)
      clear hF
      repeat refine evDone ?_
      try (show AW _ _ _ _ _)
      refine AW.ret ⟨by simp [resP, a18_res, ARes.op, hD, hN], [(B, ⟨2, true, [.agg [.bool true, .hdr r 0 o.length]]⟩), (r, ⟨2, false, o.map Item.av⟩)], n + 200, [.int .i64 0], ⟨r, .inr (by omega), by omega, by omega, rfl, rfl⟩, by omega, (by intro p hp; simp at hp; rcases hp with rfl | rfl <;> first | (left; exact hkB) | (left; exact hkH) | (right; dsimp only; omega)), rfl, by simp, ?_⟩
      simp only [resV, a18_res, List.map_cons, List.map_nil, ARes.op]
      refine Fit.mk _ _ _ (by simp [hD, hN, conv2, newEmp, convs_refl, convs, conv]) (by simp [hD, hN, heapFit, newEmp, conv2s, conv2, convs_refl, convs, conv]) (by intro q hq; first | (simp at hq; done) | (simp at hq; omega) | (simp at hq; simp; omega))
    | false =>
      have hoR : o ++ [x] = R := by rw [← hfin]; simp [finF, insF]
      have hRm : R.map Item.av = o.map Item.av ++ [.agg [.int .i64 x.due, .int .i64 x.id]] := by rw [← hoR]; simp [Item.av]
      have hRo : R.length = o.length + 1 := by rw [← hoR]; simp
      repeat refine AW.seq ?_
      refine AW.condT (by simp []) (by simp []) ?_
      repeat refine AW.seq ?_
      refine AW.reg ?_
      have hF := And.intro (hby) (hD)
      repeat ((with_reducible show evIs _ (_ :: _) _ _); first | refine wQ ?_ | refine wF ?_ | refine wG ?_ | refine wT ?_ | refine wM ?_ | refine wS ?_ | refine wP ?_)
      clear hF
      repeat refine evDone ?_
      try (show AW _ _ _ _ _)
      show AW _ _ _ _ _
      repeat refine AW.seq ?_
      refine AW.reg ?_
      have hF := hD
      repeat ((with_reducible show evIs _ (_ :: _) _ _); first | refine wQ ?_ | refine wF ?_ | refine wG ?_ | refine wT ?_ | refine wM ?_ | refine wS ?_ | refine wP ?_)
      clear hF
      repeat refine evDone ?_
      try (show AW _ _ _ _ _)
      repeat refine AW.seq ?_
      refine AW.reg ?_
      have hF := hD
      repeat ((with_reducible show evIs _ (_ :: _) _ _); first | refine wQ ?_ | refine wF ?_ | refine wG ?_ | refine wT ?_ | refine wM ?_ | refine wS ?_ | refine wP ?_)
      clear hF
      repeat refine evDone ?_
      try (show AW _ _ _ _ _)
      refine AW.ret ⟨by simp [resP, a18_res, ARes.op, hD, hN, hRo, hRm], [(B, ⟨2, true, [.agg [.bool true, .hdr (n + 56) 0 R.length]]⟩), ((n + 56), ⟨2, false, R.map Item.av⟩)], n + 200, [.int .i64 0], ⟨n + 56, .inr (by omega), by omega, by omega, rfl, rfl⟩, by omega, (by intro p hp; simp at hp; rcases hp with rfl | rfl <;> first | (left; exact hkB) | (left; exact hkH) | (right; dsimp only; omega)), rfl, by simp, ?_⟩
      simp only [resV, a18_res, List.map_cons, List.map_nil, ARes.op]
      refine Fit.mk _ _ _ (by simp [hD, hN, hRo, hRm, conv2, newEmp, convs_refl, convs, conv]) (by simp [hD, hN, hRo, hRm, heapFit, newEmp, conv2s, conv2, convs_refl, convs, conv]) (by intro q hq; first | (simp at hq; done) | (simp at hq; omega) | (simp at hq; simp; omega))
end Go.Proofs.Ytljahaeachdjmaa

set_option linter.unusedSimpArgs false
set_option linter.unusedVariables false
set_option maxHeartbeats 8000000
namespace Go.Proofs.Ytljahaeachdjmaa
open Go Go.Amb Go.IntWalk

def cancelR (ws : List Item) (id : Int) : List Item := ws.filter (fun y => y.id != id)
theorem f19 (N B H : Nat) (hB : B < N) (hH : H < N) (hBH : B ≠ H) (ws : List Item) (id : Int) (hl : ws.length ≤ 190) :
    BCall Try.prog 19 (Ws B H ws) N [.ptr B 0 0, .int .i64 id] (RPost N B H (cancelR ws id) (.bool (decide ((cancelR ws id).length < ws.length)))) := by
  obtain ⟨H0, hH0⟩ : ∃ H0, H0 = Ws B H ws := ⟨_, rfl⟩
  have hkB : (mkH H0 B).isSome = true := by rw [hH0]; simp [Ws]
  have hkH : (mkH H0 H).isSome = true := by rw [hH0]; simp [Ws, show ¬ H = B by omega]
  rw [← hH0]
  refine bcall_coded a19_ok (by simp) ?_
  rw [show mkS (argT 0 [.ptr B 0 0, .int .i64 id]) H0 N = mkS [(0, .ptr B 0 0), (1, .int .i64 id)] [(B, ⟨2, true, [.agg [.bool true, .hdr H 0 ws.length]]⟩), (H, ⟨2, false, ws.map Item.av⟩)] N by rw [hH0]; rfl]
  rw [mkS_eq]
  obtain ⟨R, hR⟩ : ∃ R, R = cancelR ws id := ⟨_, rfl⟩
  rw [← hR]
  have hN : (B = H) = False ∧ (H = B) = False ∧ B < N ∧ (∀ qz, B < N + qz) ∧ (∀ qz, (B = N + qz) = False) ∧ (∀ qz, (N + qz = B) = False) ∧ (B = N) = False ∧ (N = B) = False ∧ H < N ∧ (∀ qz, H < N + qz) ∧ (∀ qz, (H = N + qz) = False) ∧ (∀ qz, (N + qz = H) = False) ∧ (H = N) = False ∧ (N = H) = False ∧ (∀ qz, (N + qz < N) = False) := ⟨eq_false (by omega), eq_false (by omega), by omega, fun qz => by omega, fun qz => eq_false (by omega), fun qz => eq_false (by omega), eq_false (by omega), eq_false (by omega), by omega, fun qz => by omega, fun qz => eq_false (by omega), fun qz => eq_false (by omega), eq_false (by omega), eq_false (by omega), fun qz => eq_false (by omega)⟩
  have hBH1 : ¬ B = H := hBH
  repeat refine AW.seq ?_
  refine AW.reg ?_
  have hF := hN
  repeat ((with_reducible show evIs _ (_ :: _) _ _); first | refine wQ ?_ | refine wF ?_ | refine wG ?_ | refine wT ?_ | refine wM ?_ | refine wS ?_ | refine wP ?_)
  clear hF
  repeat refine evDone ?_
  try (show AW _ _ _ _ _)
  repeat refine AW.seq ?_
  refine AW.reg ?_
  have hF := hN
  repeat ((with_reducible show evIs _ (_ :: _) _ _); first | refine wQ ?_ | refine wF ?_ | refine wG ?_ | refine wT ?_ | refine wM ?_ | refine wS ?_ | refine wP ?_)
  clear hF
  repeat refine evDone ?_
  try (show AW _ _ _ _ _)
  repeat refine AW.seq ?_
  refine AW.condF (by simp []) (by simp []) ?_
  refine AW.skip ?_
  show AW _ _ _ _ _
  repeat refine AW.seq ?_
  refine AW.reg ?_
  have hF := hN
  repeat ((with_reducible show evIs _ (_ :: _) _ _); first | refine wQ ?_ | refine wF ?_ | refine wG ?_ | refine wT ?_ | refine wM ?_ | refine wS ?_ | refine wP ?_)
  clear hF
  repeat refine evDone ?_
  try (show AW _ _ _ _ _)
  repeat refine AW.seq ?_
  refine AW.reg ?_
  have hF := hN
  repeat ((with_reducible show evIs _ (_ :: _) _ _); first | refine wQ ?_ | refine wF ?_ | refine wG ?_ | refine wT ?_ | refine wM ?_ | refine wS ?_ | refine wP ?_)
  clear hF
  repeat refine evDone ?_
  try (show AW _ _ _ _ _)
  repeat refine AW.seq ?_
  refine AW.block ?_
  refine AW.loop (fun g : Nat × List Item × Nat × Nat => g.1 ≤ ws.length ∧ g.2.1 ++ cancelR (ws.drop g.1) id = R ∧ N ≤ g.2.2.1 ∧ g.2.2.1 < g.2.2.2 ∧ N + 100 ≤ g.2.2.2 ∧ g.2.1.length ≤ g.1) (fun g => mkS [(0, .ptr B 0 0), (1, .int .i64 id), (4, .bool false), (5, .hdr g.2.2.1 0 g.2.1.length), (21, .hdr H 0 ws.length), (22, .int .i64 ws.length), (23, .int .i64 g.1)] [(B, ⟨2, true, [.agg [.bool true, .hdr H 0 ws.length]]⟩), (H, ⟨2, false, ws.map Item.av⟩), (g.2.2.1, ⟨2, false, g.2.1.map Item.av⟩)] g.2.2.2) (fun g => ws.length - g.1) (0, [], N + 50, N + 100) ⟨by simp, by simp [hR], by simp, by simp, by simp, by simp⟩ ?_ ?_
  · refine Fit.mk _ _ _ (by simp [hN, conv2, newEmp, convs_refl, convs, conv]) (by simp [hN, heapFit, newEmp, conv2s, conv2, convs_refl, convs, conv]) (by intro q hq; first | (simp at hq; done) | (simp at hq; omega) | (simp at hq; simp; omega))
  rintro ⟨i, o, r, n⟩ ⟨hi, hfin, hr1, hr2, hn, hol⟩
  dsimp only at hi hfin hr1 hr2 hn hol ⊢
  have hD : (B = H) = False ∧ (B = r) = False ∧ (H = B) = False ∧ (H = r) = False ∧ (r = B) = False ∧ (r = H) = False ∧ B < n ∧ (∀ qz, B < n + qz) ∧ (∀ qz, (B = n + qz) = False) ∧ (∀ qz, (n + qz = B) = False) ∧ (B = n) = False ∧ (n = B) = False ∧ H < n ∧ (∀ qz, H < n + qz) ∧ (∀ qz, (H = n + qz) = False) ∧ (∀ qz, (n + qz = H) = False) ∧ (H = n) = False ∧ (n = H) = False ∧ r < n ∧ (∀ qz, r < n + qz) ∧ (∀ qz, (r = n + qz) = False) ∧ (∀ qz, (n + qz = r) = False) ∧ (r = n) = False ∧ (n = r) = False ∧ (∀ qz, (n + qz < n) = False) := ⟨eq_false (by omega), eq_false (by omega), eq_false (by omega), eq_false (by omega), eq_false (by omega), eq_false (by omega), by omega, fun qz => by omega, fun qz => eq_false (by omega), fun qz => eq_false (by omega), eq_false (by omega), eq_false (by omega), by omega, fun qz => by omega, fun qz => eq_false (by omega), fun qz => eq_false (by omega), eq_false (by omega), eq_false (by omega), by omega, fun qz => by omega, fun qz => eq_false (by omega), fun qz => eq_false (by omega), eq_false (by omega), eq_false (by omega), fun qz => eq_false (by omega)⟩
  by_cases hlt : i < ws.length
  · obtain ⟨y, hy⟩ : ∃ y, ws[i]? = some y := ⟨_, List.getElem?_eq_getElem hlt⟩
    have he := elem_map (f := Item.av) hy
    have hdr := drop_at hy
    simp only [Item.av] at he
    have hby : (o.length + 1) * 16 ≤ 140737488355328 ∧ o.length + 1 ≤ 9223372036854775807 := ⟨by omega, by omega⟩
    have hw : IntKind.i64.wrap ((i : Int) + 1) = (i : Int) + 1 := i64_in _ ⟨by omega, by omega⟩
    rw [hdr] at hfin
    have hf1 : B < n + 200 ∧ H < n + 200 ∧ r < n + 200 ∧ n + 30 < n + 200 := ⟨by omega, by omega, by omega, by omega⟩
    repeat refine AW.seq ?_
    refine AW.reg ?_
    have hF := And.intro (hlt) (hD)
    repeat ((with_reducible show evIs _ (_ :: _) _ _); first | refine wQ ?_ | refine wF ?_ | refine wG ?_ | refine wT ?_ | refine wM ?_ | refine wS ?_ | refine wP ?_)
    clear hF
    repeat refine evDone ?_
    try (show AW _ _ _ _ _)
    repeat refine AW.seq ?_
    refine AW.condT (by simp []) (by simp []) ?_
    refine AW.skip ?_
    show AW _ _ _ _ _
    refine AW.seq (AW.block ?_)
    repeat refine AW.seq ?_
    refine AW.reg ?_
    have hF := And.intro (hlt) (And.intro (he) (hD))
    repeat ((with_reducible show evIs _ (_ :: _) _ _); first | refine wQ ?_ | refine wF ?_ | refine wG ?_ | refine wT ?_ | refine wM ?_ | refine wS ?_ | refine wP ?_)
    clear hF
    repeat refine evDone ?_
    try (show AW _ _ _ _ _)
    repeat refine AW.seq ?_
    refine AW.reg ?_
    by_cases hyi : y.id = id
    · have hyi2 : (y.id != id) = false := by simp [hyi]
      have hF := And.intro (hyi2) (hD)
      repeat ((with_reducible show evIs _ (_ :: _) _ _); first | refine wQ ?_ | refine wF ?_ | refine wG ?_ | refine wT ?_ | refine wM ?_ | refine wS ?_ | refine wP ?_)
      clear hF
      repeat refine evDone ?_
      try (show AW _ _ _ _ _)
      repeat refine AW.seq ?_
      refine AW.condF (by simp [hyi2]) (by simp [hyi2]) ?_
      refine AW.skip ?_
      show AW _ _ _ _ _
      refine AW.reg ?_
      have hF := And.intro (hw) (hD)
      repeat ((with_reducible show evIs _ (_ :: _) _ _); first | refine wQ ?_ | refine wF ?_ | refine wG ?_ | refine wT ?_ | refine wM ?_ | refine wS ?_ | refine wP ?_)
      clear hF
      repeat refine evDone ?_
      try (show AW _ _ _ _ _)
      refine ⟨(i + 1, o, r, n + 200), ⟨by dsimp only; omega, ?_, hr1, by dsimp only; omega, by dsimp only; omega, by dsimp only; omega⟩, by dsimp only; omega, ?_⟩
      · rw [← hfin]; simp [cancelR, hyi]
      refine Fit.mk _ _ _ (by simp [hw, hD, hf1, conv2, newEmp, convs_refl, convs, conv]) (by simp [hw, hD, hf1, heapFit, newEmp, conv2s, conv2, convs_refl, convs, conv]) (by intro q hq; first | (simp at hq; done) | (simp at hq; omega) | (simp at hq; simp; omega))
    · have hyi2 : (y.id != id) = true := by simp [hyi]
      have hF := And.intro (hyi2) (hD)
      repeat ((with_reducible show evIs _ (_ :: _) _ _); first | refine wQ ?_ | refine wF ?_ | refine wG ?_ | refine wT ?_ | refine wM ?_ | refine wS ?_ | refine wP ?_)
      clear hF
      repeat refine evDone ?_
      try (show AW _ _ _ _ _)
      repeat refine AW.seq ?_
      refine AW.condT (by simp [hyi2]) (by simp [hyi2]) ?_
      repeat refine AW.seq ?_
      refine AW.reg ?_
      have hF := And.intro (hby) (hD)
      repeat ((with_reducible show evIs _ (_ :: _) _ _); first | refine wQ ?_ | refine wF ?_ | refine wG ?_ | refine wT ?_ | refine wM ?_ | refine wS ?_ | refine wP ?_)
      clear hF
      repeat refine evDone ?_
      try (show AW _ _ _ _ _)
      show AW _ _ _ _ _
      refine AW.reg ?_
      have hF := And.intro (hw) (hD)
      repeat ((with_reducible show evIs _ (_ :: _) _ _); first | refine wQ ?_ | refine wF ?_ | refine wG ?_ | refine wT ?_ | refine wM ?_ | refine wS ?_ | refine wP ?_)
      clear hF
      repeat refine evDone ?_
      try (show AW _ _ _ _ _)
      refine ⟨(i + 1, o ++ [y], n + 30, n + 200), ⟨by dsimp only; omega, ?_, by dsimp only; omega, by dsimp only; omega, by dsimp only; omega, by simp; omega⟩, by dsimp only; omega, ?_⟩
      · rw [← hfin]; simp [cancelR, hyi]
      refine Fit.mk _ _ _ (by simp [hw, hD, hf1, Item.av, conv2, newEmp, convs_refl, convs, conv]) (by simp [hw, hD, hf1, Item.av, heapFit, newEmp, conv2s, conv2, convs_refl, convs, conv]) (by intro q hq; first | (simp at hq; done) | (simp at hq; omega) | (simp at hq; simp; omega))
  · have hlt2 : ¬ (i : Int) < ws.length := by omega
    have hie : i = ws.length := by omega
    subst hie
    rw [List.drop_eq_nil_of_le (Nat.le_refl _)] at hfin
    have hoR : o = R := by rw [← hfin]; simp [cancelR]
    clear hfin
    clear hR
    subst hoR
    repeat refine AW.seq ?_
    refine AW.reg ?_
    have hF := And.intro (hlt) (And.intro (hlt2) (hD))
    repeat ((with_reducible show evIs _ (_ :: _) _ _); first | refine wQ ?_ | refine wF ?_ | refine wG ?_ | refine wT ?_ | refine wM ?_ | refine wS ?_ | refine wP ?_)
    clear hF
    repeat refine evDone ?_
    try (show AW _ _ _ _ _)
    repeat refine AW.seq ?_
    refine AW.condF (by simp []) (by simp []) ?_
    refine AW.exit ?_
    show AW _ _ _ _ _
    repeat refine AW.seq ?_
    refine AW.reg ?_
    have hF := hD
    repeat ((with_reducible show evIs _ (_ :: _) _ _); first | refine wQ ?_ | refine wF ?_ | refine wG ?_ | refine wT ?_ | refine wM ?_ | refine wS ?_ | refine wP ?_)
    clear hF
    repeat refine evDone ?_
    try (show AW _ _ _ _ _)
    repeat refine AW.seq ?_
    refine AW.reg ?_
    have hF := hD
    repeat ((with_reducible show evIs _ (_ :: _) _ _); first | refine wQ ?_ | refine wF ?_ | refine wG ?_ | refine wT ?_ | refine wM ?_ | refine wS ?_ | refine wP ?_)
    clear hF
    repeat refine evDone ?_
    try (show AW _ _ _ _ _)
    repeat refine AW.seq ?_
    refine AW.reg ?_
    have hF := hD
    repeat ((with_reducible show evIs _ (_ :: _) _ _); first | refine wQ ?_ | refine wF ?_ | refine wG ?_ | refine wT ?_ | refine wM ?_ | refine wS ?_ | refine wP ?_)
    clear hF
    repeat refine evDone ?_
    try (show AW _ _ _ _ _)
    refine AW.ret ⟨by simp [resP, a19_res, ARes.op, hD, hN], [(B, ⟨2, true, [.agg [.bool true, .hdr r 0 o.length]]⟩), (r, ⟨2, false, o.map Item.av⟩)], n + 200, [.bool (decide (o.length < ws.length))], ⟨r, .inr hr1, by omega, by omega, rfl, rfl⟩, by omega, (by intro p hp; simp at hp; rcases hp with rfl | rfl <;> first | (left; exact hkB) | (left; exact hkH) | (right; dsimp only; omega)), rfl, by simp, ?_⟩
    simp only [resV, a19_res, List.map_cons, List.map_nil, ARes.op]
    refine Fit.mk _ _ _ (by simp [hD, hN, conv2, newEmp, convs_refl, convs, conv]) (by simp [hD, hN, heapFit, newEmp, conv2s, conv2, convs_refl, convs, conv]) (by intro q hq; first | (simp at hq; done) | (simp at hq; omega) | (simp at hq; simp; omega))
end Go.Proofs.Ytljahaeachdjmaa

set_option linter.unusedSimpArgs false
set_option linter.unusedVariables false
set_option maxHeartbeats 8000000
namespace Go.Proofs.Ytljahaeachdjmaa
open Go Go.Amb Go.IntWalk

theorem f21 (N B H : Nat) (hB : B < N) (hH : H < N) (hBH : B ≠ H) (ws : List Item) (now : Int) (hl : ws.length ≤ 190) :
    BCall Try.prog 21 (Ws B H ws) N [.ptr B 0 0, .int .i64 now] (fun H1 n' v => ∃ r q, N ≤ r ∧ r < n' ∧ N ≤ q ∧ q < n' ∧ r ≠ q ∧ H1 = (r, ⟨2, false, (ws.filter (dueP now)).map Item.av⟩) :: Ws B q (ws.filter (lateP now)) ∧ v = .hdr r 0 (ws.filter (dueP now)).length) := by
  obtain ⟨H0, hH0⟩ : ∃ H0, H0 = Ws B H ws := ⟨_, rfl⟩
  have hkB : (mkH H0 B).isSome = true := by rw [hH0]; simp [Ws]
  have hkH : (mkH H0 H).isSome = true := by rw [hH0]; simp [Ws, show ¬ H = B by omega]
  rw [← hH0]
  refine bcall_coded a21_ok (by simp) ?_
  rw [show mkS (argT 0 [.ptr B 0 0, .int .i64 now]) H0 N = mkS [(0, .ptr B 0 0), (1, .int .i64 now)] [(B, ⟨2, true, [.agg [.bool true, .hdr H 0 ws.length]]⟩), (H, ⟨2, false, ws.map Item.av⟩)] N by rw [hH0]; rfl]
  rw [mkS_eq]
  obtain ⟨R, hR⟩ : ∃ R, R = ws.filter (dueP now) := ⟨_, rfl⟩
  obtain ⟨L, hL⟩ : ∃ L, L = ws.filter (lateP now) := ⟨_, rfl⟩
  rw [← hR, ← hL]
  have hN : (B = H) = False ∧ (H = B) = False ∧ B < N ∧ (∀ qz, B < N + qz) ∧ (∀ qz, (B = N + qz) = False) ∧ (∀ qz, (N + qz = B) = False) ∧ (B = N) = False ∧ (N = B) = False ∧ H < N ∧ (∀ qz, H < N + qz) ∧ (∀ qz, (H = N + qz) = False) ∧ (∀ qz, (N + qz = H) = False) ∧ (H = N) = False ∧ (N = H) = False ∧ (∀ qz, (N + qz < N) = False) := ⟨eq_false (by omega), eq_false (by omega), by omega, fun qz => by omega, fun qz => eq_false (by omega), fun qz => eq_false (by omega), eq_false (by omega), eq_false (by omega), by omega, fun qz => by omega, fun qz => eq_false (by omega), fun qz => eq_false (by omega), eq_false (by omega), eq_false (by omega), fun qz => eq_false (by omega)⟩
  have hBH1 : ¬ B = H := hBH
  repeat refine AW.seq ?_
  refine AW.reg ?_
  have hF := hN
  repeat ((with_reducible show evIs _ (_ :: _) _ _); first | refine wQ ?_ | refine wF ?_ | refine wG ?_ | refine wT ?_ | refine wM ?_ | refine wS ?_ | refine wP ?_)
  clear hF
  repeat refine evDone ?_
  try (show AW _ _ _ _ _)
  repeat refine AW.seq ?_
  refine AW.reg ?_
  have hF := hN
  repeat ((with_reducible show evIs _ (_ :: _) _ _); first | refine wQ ?_ | refine wF ?_ | refine wG ?_ | refine wT ?_ | refine wM ?_ | refine wS ?_ | refine wP ?_)
  clear hF
  repeat refine evDone ?_
  try (show AW _ _ _ _ _)
  repeat refine AW.seq ?_
  refine AW.condF (by simp []) (by simp []) ?_
  refine AW.skip ?_
  show AW _ _ _ _ _
  repeat refine AW.seq ?_
  refine AW.reg ?_
  have hF := hN
  repeat ((with_reducible show evIs _ (_ :: _) _ _); first | refine wQ ?_ | refine wF ?_ | refine wG ?_ | refine wT ?_ | refine wM ?_ | refine wS ?_ | refine wP ?_)
  clear hF
  repeat refine evDone ?_
  try (show AW _ _ _ _ _)
  repeat refine AW.seq ?_
  refine AW.reg ?_
  have hF := hN
  repeat ((with_reducible show evIs _ (_ :: _) _ _); first | refine wQ ?_ | refine wF ?_ | refine wG ?_ | refine wT ?_ | refine wM ?_ | refine wS ?_ | refine wP ?_)
  clear hF
  repeat refine evDone ?_
  try (show AW _ _ _ _ _)
  repeat refine AW.seq ?_
  refine AW.block ?_
  refine AW.loop (fun g : Nat × (List Item × List Item) × (Nat × Nat) × Nat => g.1 ≤ ws.length ∧ (g.2.1.1 ++ (ws.drop g.1).filter (dueP now) = R ∧ g.2.1.2 ++ (ws.drop g.1).filter (lateP now) = L) ∧ (N ≤ g.2.2.1.1 ∧ g.2.2.1.1 < g.2.2.2 ∧ N ≤ g.2.2.1.2 ∧ g.2.2.1.2 < g.2.2.2 ∧ g.2.2.1.1 ≠ g.2.2.1.2) ∧ N + 100 ≤ g.2.2.2 ∧ g.2.1.1.length ≤ g.1 ∧ g.2.1.2.length ≤ g.1) (fun g => mkS [(0, .ptr B 0 0), (1, .int .i64 now), (4, .sl .ext []), (5, .hdr g.2.2.1.1 0 g.2.1.1.length), (6, .hdr g.2.2.1.2 0 g.2.1.2.length), (21, .hdr H 0 ws.length), (22, .int .i64 ws.length), (23, .int .i64 g.1)] [(B, ⟨2, true, [.agg [.bool true, .hdr H 0 ws.length]]⟩), (H, ⟨2, false, ws.map Item.av⟩), (g.2.2.1.1, ⟨2, false, g.2.1.1.map Item.av⟩), (g.2.2.1.2, ⟨2, false, g.2.1.2.map Item.av⟩)] g.2.2.2) (fun g => ws.length - g.1) (0, ([], []), (N + 50, N + 60), N + 100) ⟨by simp, ⟨by simp [hR], by simp [hL]⟩, ⟨by simp, by simp, by simp, by simp, by simp⟩, by simp, by simp, by simp⟩ ?_ ?_
  · refine Fit.mk _ _ _ (by simp [hN, conv2, newEmp, convs_refl, convs, conv]) (by simp [hN, heapFit, newEmp, conv2s, conv2, convs_refl, convs, conv]) (by intro q hq; first | (simp at hq; done) | (simp at hq; omega) | (simp at hq; simp; omega))
  rintro ⟨i, ⟨o, e⟩, ⟨r, q⟩, n⟩ ⟨hi, ⟨hf1, hf2⟩, ⟨hr1, hr2, hq1, hq2, hrq⟩, hn, hol, hel⟩
  dsimp only at hi hf1 hf2 hr1 hr2 hq1 hq2 hrq hn hol hel ⊢
  have hD : (B = H) = False ∧ (B = r) = False ∧ (B = q) = False ∧ (H = B) = False ∧ (H = r) = False ∧ (H = q) = False ∧ (r = B) = False ∧ (r = H) = False ∧ (r = q) = False ∧ (q = B) = False ∧ (q = H) = False ∧ (q = r) = False ∧ B < n ∧ (∀ qz, B < n + qz) ∧ (∀ qz, (B = n + qz) = False) ∧ (∀ qz, (n + qz = B) = False) ∧ (B = n) = False ∧ (n = B) = False ∧ H < n ∧ (∀ qz, H < n + qz) ∧ (∀ qz, (H = n + qz) = False) ∧ (∀ qz, (n + qz = H) = False) ∧ (H = n) = False ∧ (n = H) = False ∧ r < n ∧ (∀ qz, r < n + qz) ∧ (∀ qz, (r = n + qz) = False) ∧ (∀ qz, (n + qz = r) = False) ∧ (r = n) = False ∧ (n = r) = False ∧ q < n ∧ (∀ qz, q < n + qz) ∧ (∀ qz, (q = n + qz) = False) ∧ (∀ qz, (n + qz = q) = False) ∧ (q = n) = False ∧ (n = q) = False ∧ (∀ qz, (n + qz < n) = False) := ⟨eq_false (by omega), eq_false (by omega), eq_false (by omega), eq_false (by omega), eq_false (by omega), eq_false (by omega), eq_false (by omega), eq_false (by omega), eq_false (by omega), eq_false (by omega), eq_false (by omega), eq_false (by omega), by omega, fun qz => by omega, fun qz => eq_false (by omega), fun qz => eq_false (by omega), eq_false (by omega), eq_false (by omega), by omega, fun qz => by omega, fun qz => eq_false (by omega), fun qz => eq_false (by omega), eq_false (by omega), eq_false (by omega), by omega, fun qz => by omega, fun qz => eq_false (by omega), fun qz => eq_false (by omega), eq_false (by omega), eq_false (by omega), by omega, fun qz => by omega, fun qz => eq_false (by omega), fun qz => eq_false (by omega), eq_false (by omega), eq_false (by omega), fun qz => eq_false (by omega)⟩
  by_cases hlt : i < ws.length
  · obtain ⟨y, hy⟩ : ∃ y, ws[i]? = some y := ⟨_, List.getElem?_eq_getElem hlt⟩
    have he := elem_map (f := Item.av) hy
    have hdr := drop_at hy
    simp only [Item.av] at he
    have hby : (o.length + 1) * 16 ≤ 140737488355328 ∧ o.length + 1 ≤ 9223372036854775807 ∧ (e.length + 1) * 16 ≤ 140737488355328 ∧ e.length + 1 ≤ 9223372036854775807 := ⟨by omega, by omega, by omega, by omega⟩
    have hw : IntKind.i64.wrap ((i : Int) + 1) = (i : Int) + 1 := i64_in _ ⟨by omega, by omega⟩
    rw [hdr] at hf1 hf2
    have hx1 : B < n + 200 ∧ H < n + 200 ∧ r < n + 200 ∧ q < n + 200 ∧ n + 31 < n + 200 ∧ n + 36 < n + 200 := ⟨by omega, by omega, by omega, by omega, by omega, by omega⟩
    repeat refine AW.seq ?_
    refine AW.reg ?_
    have hF := And.intro (hlt) (hD)
    repeat ((with_reducible show evIs _ (_ :: _) _ _); first | refine wQ ?_ | refine wF ?_ | refine wG ?_ | refine wT ?_ | refine wM ?_ | refine wS ?_ | refine wP ?_)
    clear hF
    repeat refine evDone ?_
    try (show AW _ _ _ _ _)
    repeat refine AW.seq ?_
    refine AW.condT (by simp []) (by simp []) ?_
    refine AW.skip ?_
    show AW _ _ _ _ _
    refine AW.seq (AW.block ?_)
    repeat refine AW.seq ?_
    refine AW.reg ?_
    have hF := And.intro (hlt) (And.intro (he) (hD))
    repeat ((with_reducible show evIs _ (_ :: _) _ _); first | refine wQ ?_ | refine wF ?_ | refine wG ?_ | refine wT ?_ | refine wM ?_ | refine wS ?_ | refine wP ?_)
    clear hF
    repeat refine evDone ?_
    try (show AW _ _ _ _ _)
    repeat refine AW.seq ?_
    refine AW.reg ?_
    by_cases hyi : y.due ≤ now
    · rw [List.filter_cons_of_pos (by simpa using hyi)] at hf1
      rw [List.filter_cons_of_neg (by simpa using hyi)] at hf2
      have hF := And.intro (hyi) (hD)
      repeat ((with_reducible show evIs _ (_ :: _) _ _); first | refine wQ ?_ | refine wF ?_ | refine wG ?_ | refine wT ?_ | refine wM ?_ | refine wS ?_ | refine wP ?_)
      clear hF
      repeat refine evDone ?_
      try (show AW _ _ _ _ _)
      repeat refine AW.seq ?_
      refine AW.condT (by simp [hyi]) (by simp [hyi]) ?_
      refine AW.reg ?_
      have hF := And.intro (hby) (hD)
      repeat ((with_reducible show evIs _ (_ :: _) _ _); first | refine wQ ?_ | refine wF ?_ | refine wG ?_ | refine wT ?_ | refine wM ?_ | refine wS ?_ | refine wP ?_)
      clear hF
      repeat refine evDone ?_
      try (show AW _ _ _ _ _)
      show AW _ _ _ _ _
      refine AW.reg ?_
      have hF := And.intro (hw) (hD)
      repeat ((with_reducible show evIs _ (_ :: _) _ _); first | refine wQ ?_ | refine wF ?_ | refine wG ?_ | refine wT ?_ | refine wM ?_ | refine wS ?_ | refine wP ?_)
      clear hF
      repeat refine evDone ?_
      try (show AW _ _ _ _ _)
      refine ⟨(i + 1, (o ++ [y], e), (n + 31, q), n + 200), ⟨by dsimp only; omega, ⟨?_, hf2⟩, ⟨by dsimp only; omega, by dsimp only; omega, by dsimp only; omega, by dsimp only; omega, by dsimp only; omega⟩, by dsimp only; omega, by simp; omega, by dsimp only; omega⟩, by dsimp only; omega, ?_⟩
      · rw [← hf1]; simp
      refine Fit.mk _ _ _ (by simp [hw, hD, hx1, Item.av, conv2, newEmp, convs_refl, convs, conv]) (by simp [hw, hD, hx1, Item.av, heapFit, newEmp, conv2s, conv2, convs_refl, convs, conv]) (by intro q hq; first | (simp at hq; done) | (simp at hq; omega) | (simp at hq; simp; omega))
    · rw [List.filter_cons_of_neg (by simpa using hyi)] at hf1
      rw [List.filter_cons_of_pos (by simpa using hyi)] at hf2
      have hF := And.intro (hyi) (hD)
      repeat ((with_reducible show evIs _ (_ :: _) _ _); first | refine wQ ?_ | refine wF ?_ | refine wG ?_ | refine wT ?_ | refine wM ?_ | refine wS ?_ | refine wP ?_)
      clear hF
      repeat refine evDone ?_
      try (show AW _ _ _ _ _)
      repeat refine AW.seq ?_
      refine AW.condF (by simp [hyi]) (by simp [hyi]) ?_
      refine AW.reg ?_
      have hF := And.intro (hby) (hD)
      repeat ((with_reducible show evIs _ (_ :: _) _ _); first | refine wQ ?_ | refine wF ?_ | refine wG ?_ | refine wT ?_ | refine wM ?_ | refine wS ?_ | refine wP ?_)
      clear hF
      repeat refine evDone ?_
      try (show AW _ _ _ _ _)
      show AW _ _ _ _ _
      refine AW.reg ?_
      have hF := And.intro (hw) (hD)
      repeat ((with_reducible show evIs _ (_ :: _) _ _); first | refine wQ ?_ | refine wF ?_ | refine wG ?_ | refine wT ?_ | refine wM ?_ | refine wS ?_ | refine wP ?_)
      clear hF
      repeat refine evDone ?_
      try (show AW _ _ _ _ _)
      refine ⟨(i + 1, (o, e ++ [y]), (r, n + 36), n + 200), ⟨by dsimp only; omega, ⟨hf1, ?_⟩, ⟨by dsimp only; omega, by dsimp only; omega, by dsimp only; omega, by dsimp only; omega, by dsimp only; omega⟩, by dsimp only; omega, by dsimp only; omega, by simp; omega⟩, by dsimp only; omega, ?_⟩
      · rw [← hf2]; simp
      refine Fit.mk _ _ _ (by simp [hw, hD, hx1, Item.av, conv2, newEmp, convs_refl, convs, conv]) (by simp [hw, hD, hx1, Item.av, heapFit, newEmp, conv2s, conv2, convs_refl, convs, conv]) (by intro q hq; first | (simp at hq; done) | (simp at hq; omega) | (simp at hq; simp; omega))
  · have hlt2 : ¬ (i : Int) < ws.length := by omega
    have hie : i = ws.length := by omega
    subst hie
    rw [List.drop_eq_nil_of_le (Nat.le_refl _)] at hf1 hf2
    have hoR : o = R := by rw [← hf1]; simp
    have heL : e = L := by rw [← hf2]; simp
    clear hf1 hf2 hR hL
    subst hoR heL
    repeat refine AW.seq ?_
    refine AW.reg ?_
    have hF := And.intro (hlt) (And.intro (hlt2) (hD))
    repeat ((with_reducible show evIs _ (_ :: _) _ _); first | refine wQ ?_ | refine wF ?_ | refine wG ?_ | refine wT ?_ | refine wM ?_ | refine wS ?_ | refine wP ?_)
    clear hF
    repeat refine evDone ?_
    try (show AW _ _ _ _ _)
    repeat refine AW.seq ?_
    refine AW.condF (by simp []) (by simp []) ?_
    refine AW.exit ?_
    show AW _ _ _ _ _
    repeat refine AW.seq ?_
    refine AW.reg ?_
    have hF := hD
    repeat ((with_reducible show evIs _ (_ :: _) _ _); first | refine wQ ?_ | refine wF ?_ | refine wG ?_ | refine wT ?_ | refine wM ?_ | refine wS ?_ | refine wP ?_)
    clear hF
    repeat refine evDone ?_
    try (show AW _ _ _ _ _)
    repeat refine AW.seq ?_
    refine AW.reg ?_
    have hF := hD
    repeat ((with_reducible show evIs _ (_ :: _) _ _); first | refine wQ ?_ | refine wF ?_ | refine wG ?_ | refine wT ?_ | refine wM ?_ | refine wS ?_ | refine wP ?_)
    clear hF
    repeat refine evDone ?_
    try (show AW _ _ _ _ _)
    refine AW.ret ⟨by simp [resP, a21_res, ARes.op, hD, hN], [(r, ⟨2, false, o.map Item.av⟩), (B, ⟨2, true, [.agg [.bool true, .hdr q 0 e.length]]⟩), (q, ⟨2, false, e.map Item.av⟩)], n + 200, [.hdr r 0 o.length], ⟨r, q, hr1, by omega, hq1, by omega, hrq, rfl, rfl⟩, by omega, (by intro p hp; simp at hp; rcases hp with rfl | rfl | rfl <;> first | (left; exact hkB) | (left; exact hkH) | (right; dsimp only; omega)), rfl, by simp, ?_⟩
    simp only [resV, a21_res, List.map_cons, List.map_nil, ARes.op]
    refine Fit.mk _ _ _ (by simp [hD, hN, conv2, newEmp, convs_refl, convs, conv]) (by simp [hD, hN, heapFit, newEmp, conv2s, conv2, convs_refl, convs, conv]) (by intro q hq; first | (simp at hq; done) | (simp at hq; omega) | (simp at hq; simp; omega))
end Go.Proofs.Ytljahaeachdjmaa

set_option linter.unusedSimpArgs false
set_option linter.unusedVariables false
namespace Go.Proofs.Ytljahaeachdjmaa
open Go Go.Amb Go.IntWalk

/-- The heap and the reference's list are alike. -/
structure Alike (xs ws : List Item) : Prop where
  heap : Hm xs
  list : srt xs = ws
  ids : (xs.map Item.id).Nodup
theorem Alike.len {xs ws : List Item} (h : Alike xs ws) : ws.length = xs.length := by rw [← h.list, srt_len]
theorem Alike.perm {xs ws : List Item} (h : Alike xs ws) : ws.Perm xs := by rw [← h.list]; exact srt_perm xs
theorem alike_nil : Alike [] [] := ⟨hm_nil, by simp [srt], by simp⟩
theorem insF_perm (x : Item) : ∀ l, (insF x l).Perm (x :: l)
  | [] => List.Perm.refl _
  | y :: l => by
    unfold insF
    split
    · exact List.Perm.refl _
    · exact ((insF_perm x l).cons y).trans (List.Perm.swap x y l)
theorem insF_pair (x : Item) : ∀ l : List Item, l.Pairwise Ple → (insF x l).Pairwise Ple
  | [], _ => by simp [insF]
  | y :: l, h => by
    obtain ⟨h1, h2⟩ := List.pairwise_cons.1 h
    unfold insF
    cases hb : bef x y with
    | true =>
      have hxy := Ple.of_bef hb
      simp only [if_true]
      refine List.pairwise_cons.2 ⟨fun z hz => ?_, h⟩
      rcases List.mem_cons.1 hz with rfl | hz
      · exact hxy
      · exact hxy.trans (h1 z hz)
    | false =>
      have hyx : Ple y x := hb
      simp only [Bool.false_eq_true, if_false]
      refine List.pairwise_cons.2 ⟨fun z hz => ?_, insF_pair x l h2⟩
      rcases List.mem_cons.1 ((insF_perm x l).subset hz) with rfl | hz
      · exact hyx
      · exact h1 z hz
theorem alike_add {xs ws : List Item} (h : Alike xs ws) (x : Item) : Alike (addF xs x).1 (addR ws x).1 ∧ (addF xs x).2 = (addR ws x).2 ∧ (addF xs x).1.length ≤ xs.length + 1 := by
  refine ⟨?_, ?_, addF_len xs x⟩
  all_goals
    by_cases hex : ∃ y ∈ xs, y.id = x.id
  · obtain ⟨y, hy, hyi⟩ := hex
    have h1 : addR ws x = (ws, 9) := by
      unfold addR
      rw [if_pos]
      exact List.any_eq_true.2 ⟨y, h.perm.symm.subset hy, by simpa using hyi⟩
    have h2 : addF xs x = (xs, 9) := by
      unfold addF
      rw [if_pos]
      rcases idx_cases xs (fun y => y.id == x.id) with ⟨_, h2⟩ | ⟨k, _, h1, _⟩
      · have := List.findIdx?_eq_none_iff.1 h2 y hy
        simp [hyi] at this
      · rw [h1]; omega
    rw [h1, h2]
    exact h
  · have hno : ∀ y ∈ xs, ¬ y.id = x.id := fun y hy e => hex ⟨y, hy, e⟩
    have h1 : addR ws x = (insF x ws, 0) := by
      unfold addR
      rw [if_neg]
      intro e
      obtain ⟨y, hy, hyi⟩ := List.any_eq_true.1 e
      exact hno y (h.perm.subset hy) (by simpa using hyi)
    have hp := addF_new hno
    rw [h1]
    refine ⟨addF_heap h.heap x, ?_, ?_⟩
    · refine (srt_eq ?_ (insF_pair x ws (h.list ▸ srt_pair xs))).symm
      exact (insF_perm x ws).trans ((h.perm.cons x).trans hp.symm)
    · refine (hp.map Item.id).nodup_iff.2 ?_
      rw [List.map_cons, List.nodup_cons]
      refine ⟨fun e => ?_, h.ids⟩
      obtain ⟨y, hy, e⟩ := List.mem_map.1 e
      exact hno y hy e
  · obtain ⟨y, hy, hyi⟩ := hex
    unfold addF addR
    rw [if_pos, if_pos]
    · exact List.any_eq_true.2 ⟨y, h.perm.symm.subset hy, by simpa using hyi⟩
    · rcases idx_cases xs (fun y => y.id == x.id) with ⟨_, h2⟩ | ⟨k, _, h1, _⟩
      · have := List.findIdx?_eq_none_iff.1 h2 y hy
        simp [hyi] at this
      · rw [h1]; omega
  · have hno : ∀ y ∈ xs, ¬ y.id = x.id := fun y hy e => hex ⟨y, hy, e⟩
    unfold addF addR
    rw [if_neg, if_neg]
    · intro e
      obtain ⟨y, hy, hyi⟩ := List.any_eq_true.1 e
      exact hno y (h.perm.subset hy) (by simpa using hyi)
    · rcases idx_cases xs (fun y => y.id == x.id) with ⟨h1, _⟩ | ⟨k, z, h1, _, h3, h4, h5⟩
      · rw [h1]; omega
      · exact absurd (by simpa using h5) (hno z (List.mem_of_getElem? h4))
theorem alike_cancel {xs ws : List Item} (h : Alike xs ws) (id : Int) : Alike (cancelF xs id).1 (cancelR ws id) ∧ (cancelF xs id).2 = decide ((cancelR ws id).length < ws.length) ∧ (cancelF xs id).1.length ≤ xs.length := by
  have hlen := h.len
  unfold cancelF
  cases hf : xs.findIdx? (fun y => y.id == id) with
  | none =>
    have hno := List.findIdx?_eq_none_iff.1 hf
    have hc : cancelR ws id = ws := by
      unfold cancelR
      refine List.filter_eq_self.2 (fun y hy => ?_)
      have := hno y (h.perm.subset hy)
      simpa using this
    rw [hc]
    exact ⟨h, by simp, Nat.le_refl _⟩
  | some k =>
    obtain ⟨hk, hid, _⟩ := List.findIdx?_eq_some_iff_getElem.1 hf
    have hm : xs.length = (xs.length - 1) + 1 := by omega
    have hr := removeF_perm (i := k) hm (by omega)
    have hh := removeF_heap (i := k) h.heap hm (by omega)
    have hl := removeF_len hm k
    rw [it_eq hk] at hr
    dsimp only
    generalize removeF xs k (xs.length - 1) = ys at hr hh hl ⊢
    generalize xs[k] = z at hr hid
    have hz : z.id = id := by simpa using hid
    have hnd := (hr.map Item.id).nodup_iff.2 h.ids
    rw [List.map_cons, List.nodup_cons] at hnd
    have hys : ∀ y ∈ ys, ¬ y.id = id := fun y hy e => hnd.1 (by rw [hz, ← e]; exact List.mem_map_of_mem hy)
    have hp : (cancelR ws id).Perm ys := by
      have h1 : (cancelR ws id).Perm (cancelR (z :: ys) id) := (h.perm.trans hr.symm).filter _
      have h2 : cancelR (z :: ys) id = ys := by
        unfold cancelR
        rw [List.filter_cons_of_neg (by simp [hz])]
        exact List.filter_eq_self.2 (fun y hy => by simpa using hys y hy)
      rwa [h2] at h1
    have hcl := hp.length_eq
    refine ⟨⟨hh, ?_, hnd.2⟩, ?_, by omega⟩
    · refine (srt_eq hp ?_).symm
      have := srt_pair xs
      rw [h.list] at this
      exact this.filter _
    · have : (cancelR ws id).length < ws.length := by omega
      simp [this]
theorem alike_pop {xs ws : List Item} (h : Alike xs ws) (now : Int) : (popF (xs.length + 1) xs now).1 = ws.filter (dueP now) ∧ Alike (popF (xs.length + 1) xs now).2 (ws.filter (lateP now)) ∧ (popF (xs.length + 1) xs now).2.length ≤ xs.length := by
  obtain ⟨h1, h2, h3⟩ := popF_heap (xs.length + 1) xs now (by omega) h.heap
  rw [h.list] at h2 h3
  have hl := congrArg List.length h3
  rw [srt_len] at hl
  have hfl := List.length_filter_le (fun y : Item => !decide (y.due ≤ now)) ws
  have hwl := h.len
  refine ⟨h2, ⟨h1, h3, ?_⟩, by omega⟩
  have hn : (ws.map Item.id).Nodup := (h.perm.map Item.id).nodup_iff.2 h.ids
  have hn2 : ((ws.filter (fun y => !decide (y.due ≤ now))).map Item.id).Nodup := hn.sublist (List.filter_sublist.map _)
  rw [← h3] at hn2
  exact ((srt_perm _).map Item.id).nodup_iff.1 hn2
theorem alike_first {xs ws : List Item} (h : Alike xs ws) (h0 : 0 < xs.length) : ∃ x xr wr, xs = x :: xr ∧ ws = x :: wr := by
  have hf := hm_first h.heap h0
  rw [h.list] at hf
  cases xs with
  | nil => simp at h0
  | cons x xr =>
    rw [it_eq h0] at hf
    exact ⟨x, xr, srt (removeF (x :: xr) 0 ((x :: xr).length - 1)), rfl, hf⟩
end Go.Proofs.Ytljahaeachdjmaa
