/- Contracts of chapter 40's functions, first part: an element is deleted. -/
import Derived.Test.YtloccbmiojhabaaB
import Derived.Test.YtloccbmiojhabaaA2
import Derived.IntWalk

set_option linter.unusedSimpArgs false
set_option linter.unusedVariables false
set_option maxHeartbeats 4000000
namespace Go.Proofs.Ytloccbmiojhabaa
open Go Go.Amb Go.IntWalk

abbrev zItem : AV := .agg [.int .i64 0, .int .i64 0, .int .i64 0, .int .i64 0, .int .i64 0, .int .i64 0, .str ⟨#[]⟩, .str ⟨#[]⟩, .str ⟨#[]⟩, .str ⟨#[]⟩, .int .i64 0, .int .i64 0, .int .i64 0]
theorem f40 (N r i : Nat) (es : List AV) (hr : r < N) (hi : i < es.length) (hl : es.length ≤ 9223372036854775807) (hu : ∀ x ∈ es, (cellsOf x).length = 13) (hs : ∀ c ∈ flat es, c.shr = true) :
    BCall Try.prog 40 [(r, ⟨13, false, es⟩)] N [.hdr r 0 es.length, .int .i64 i, .int .i64 (i + 1)]
      (fun H1 n' v => H1 = [(r, ⟨13, false, es.take i ++ es.drop (i + 1) ++ [zItem]⟩)] ∧ n' = N + 40 ∧ v = .hdr r 0 (es.length - 1)) := by
  have hs2 : ∀ c ∈ flat (es.drop (i + 1)), c.shr = true := fun c hc => hs c (by
    obtain ⟨x, hx, hcx⟩ := List.mem_flatMap.1 hc
    exact List.mem_flatMap.2 ⟨x, List.mem_of_mem_drop hx, hcx⟩)
  have ht : (es.drop (i + 1)).take (es.length - (i + 1)) = es.drop (i + 1) := List.take_of_length_le (by simp)
  have h1 : i + (es.length - (i + 1)) ≤ es.length := by omega
  have h2 : i ≤ es.length := by omega
  have h3 : i + 1 ≤ es.length := by omega
  have h4 : (i : Int) ≤ (i : Int) + 1 := by omega
  have h5 : (i : Int) + 1 ≤ es.length := by omega
  have h6 : (0 : Int) ≤ (i : Int) + 1 := by omega
  have h7 : ((i : Int) + 1).toNat = i + 1 := by omega
  have h8 : ¬ (i : Int) = (i : Int) + 1 := by omega
  have h9 : es ≠ [] := by intro h; subst h; simp at hi
  have h10 : 0 < es.length := by omega
  have hs3 := hs2
  simp at hs3
  refine bcall_coded a40_ok (by simp) ?_
  repeat refine AW.seq ?_
  refine AW.reg ?_
  have hF := True.intro
  repeat (first | refine wD1 ?_ | refine wD2 ?_ | refine wE1 ?_ | refine wE2 ?_ | (refine wE3 ?_; intro _) | (refine wE4 ?_; intro _) | refine wN ?_ | ((with_reducible show evIs _ (_ :: _) _ _); first | refine wQ ?_ | refine wF ?_ | refine wG ?_ | refine wT ?_ | refine wM ?_ | refine wS ?_ | refine wP ?_ | refine wJ ?_ | refine wX ?_ | refine wY ?_))
  clear hF
  repeat refine evDone ?_
  try (show AW _ _ _ _ _)
  repeat refine AW.seq ?_
  refine AW.reg ?_
  have hF := And.intro (h1) (And.intro (h2) (And.intro (h3) (And.intro (h4) (And.intro (h5) (And.intro (h6) (h7))))))
  repeat (first | refine wD1 ?_ | refine wD2 ?_ | refine wE1 ?_ | refine wE2 ?_ | (refine wE3 ?_; intro _) | (refine wE4 ?_; intro _) | refine wN ?_ | ((with_reducible show evIs _ (_ :: _) _ _); first | refine wQ ?_ | refine wF ?_ | refine wG ?_ | refine wT ?_ | refine wM ?_ | refine wS ?_ | refine wP ?_ | refine wJ ?_ | refine wX ?_ | refine wY ?_))
  clear hF
  repeat refine evDone ?_
  try (show AW _ _ _ _ _)
  repeat refine AW.seq ?_
  refine AW.reg ?_
  have hF := h8
  repeat (first | refine wD1 ?_ | refine wD2 ?_ | refine wE1 ?_ | refine wE2 ?_ | (refine wE3 ?_; intro _) | (refine wE4 ?_; intro _) | refine wN ?_ | ((with_reducible show evIs _ (_ :: _) _ _); first | refine wQ ?_ | refine wF ?_ | refine wG ?_ | refine wT ?_ | refine wM ?_ | refine wS ?_ | refine wP ?_ | refine wJ ?_ | refine wX ?_ | refine wY ?_))
  clear hF
  repeat refine evDone ?_
  try (show AW _ _ _ _ _)
  repeat refine AW.seq ?_
  refine AW.condF (by simp [h8]) (by simp [h8]) ?_
  refine AW.skip ?_
  show AW _ _ _ _ _
  repeat refine AW.seq ?_
  refine AW.reg ?_
  have hF := True.intro
  repeat (first | refine wD1 ?_ | refine wD2 ?_ | refine wE1 ?_ | refine wE2 ?_ | (refine wE3 ?_; intro _) | (refine wE4 ?_; intro _) | refine wN ?_ | ((with_reducible show evIs _ (_ :: _) _ _); first | refine wQ ?_ | refine wF ?_ | refine wG ?_ | refine wT ?_ | refine wM ?_ | refine wS ?_ | refine wP ?_ | refine wJ ?_ | refine wX ?_ | refine wY ?_))
  clear hF
  repeat refine evDone ?_
  try (show AW _ _ _ _ _)
  repeat refine AW.seq ?_
  refine AW.draw ?_
  have hF := And.intro (h1) (And.intro (h2) (And.intro (h3) (And.intro (h4) (And.intro (h5) (And.intro (h6) (And.intro (h7) (And.intro (ht) (And.intro (h9) (And.intro (h10) (eq_true hs3))))))))))
  repeat (first | refine wD1 ?_ | refine wD2 ?_ | refine wE1 ?_ | refine wE2 ?_ | (refine wE3 ?_; intro _) | (refine wE4 ?_; intro _) | refine wN ?_ | ((with_reducible show evIs _ (_ :: _) _ _); first | refine wQ ?_ | refine wF ?_ | refine wG ?_ | refine wT ?_ | refine wM ?_ | refine wS ?_ | refine wP ?_ | refine wJ ?_ | refine wX ?_ | refine wY ?_))
  clear hF
  repeat refine evDone ?_
  try (show AW _ _ _ _ _)
  obtain ⟨m, hm⟩ : ∃ m, es.length = m + 1 := ⟨es.length - 1, by omega⟩
  have hm1 : i + (es.length - (i + 1)) = m := by omega
  have hm2 : (es.length : Int) = (m : Int) + 1 := by omega
  have hm3 : es.length - 1 = m := by omega
  refine AW.fit (st' := mkS [(0, .hdr r 0 m), (7, .int .i64 ((m : Int) + 1))] [(r, ⟨13, false, es.take i ++ (es.drop (i + 1) ++ es.drop m)⟩)] (N + 40)) ?_ ?_
  · have hrn : ∀ k, r < N + k := fun k => by omega
    refine Fit.mk _ _ _ (by simp [hm1, hm2, hrn, conv2, newEmp, convs_refl, convs, conv]) (by simp [hm1, hm2, hrn, heapFit, newEmp, conv2s, conv2, convs_refl, convs, conv]) (by intro q hq; first | (simp at hq; done) | (simp at hq; omega) | (simp at hq; simp; omega))
  have hAl : (es.take i ++ (es.drop (i + 1) ++ es.drop m)).length = m + 1 := by simp; omega
  have hAt : (es.take i ++ (es.drop (i + 1) ++ es.drop m)).take m = es.take i ++ es.drop (i + 1) := by
    rw [← List.append_assoc, List.take_append_of_le_length (by simp; omega), List.take_of_length_le (by simp; omega)]
  generalize es.take i ++ (es.drop (i + 1) ++ es.drop m) = A at hAl hAt
  have hAd : A.drop (m + 1) = [] := List.drop_eq_nil_of_le (by omega)
  have hA1 : A ≠ [] := by intro h; subst h; simp at hAl
  have hA2 : (m : Int) + 1 ≤ A.length := by omega
  have hA3 : ((m : Int) + 1).toNat = m + 1 := by omega
  have hA4 : (0 : Int) ≤ (m : Int) + 1 := by omega
  have hA5 : (m : Int) ≤ (m : Int) + 1 := by omega
  repeat refine AW.seq ?_
  refine AW.reg ?_
  have hF := And.intro (hAl) (And.intro (hAt) (And.intro (hAd) (And.intro (hA1) (And.intro (hA2) (And.intro (hA3) (And.intro (hA4) (hA5)))))))
  repeat (first | refine wD1 ?_ | refine wD2 ?_ | refine wE1 ?_ | refine wE2 ?_ | (refine wE3 ?_; intro _) | (refine wE4 ?_; intro _) | refine wN ?_ | ((with_reducible show evIs _ (_ :: _) _ _); first | refine wQ ?_ | refine wF ?_ | refine wG ?_ | refine wT ?_ | refine wM ?_ | refine wS ?_ | refine wP ?_ | refine wJ ?_ | refine wX ?_ | refine wY ?_))
  clear hF
  repeat refine evDone ?_
  try (show AW _ _ _ _ _)
  repeat refine AW.seq ?_
  refine AW.reg ?_
  have hF := True.intro
  repeat (first | refine wD1 ?_ | refine wD2 ?_ | refine wE1 ?_ | refine wE2 ?_ | (refine wE3 ?_; intro _) | (refine wE4 ?_; intro _) | refine wN ?_ | ((with_reducible show evIs _ (_ :: _) _ _); first | refine wQ ?_ | refine wF ?_ | refine wG ?_ | refine wT ?_ | refine wM ?_ | refine wS ?_ | refine wP ?_ | refine wJ ?_ | refine wX ?_ | refine wY ?_))
  clear hF
  repeat refine evDone ?_
  try (show AW _ _ _ _ _)
  have hrn : ∀ k, r < N + k := fun k => by omega
  refine AW.ret ⟨by simp [resP, a40_res, ARes.op], [(r, ⟨13, false, es.take i ++ es.drop (i + 1) ++ [zItem]⟩)], N + 40, [.hdr r 0 (es.length - 1)], ⟨rfl, rfl, rfl⟩, by omega, by simp, rfl, by simp, ?_⟩
  simp only [resV, a40_res, List.map_cons, List.map_nil, ARes.op]
  refine Fit.mk _ _ _ (by simp [hAl, hAt, hAd, hrn, hm3, conv2, newEmp, convs_refl, convs, conv]) (by simp [hAl, hAt, hAd, hrn, hm3, heapFit, newEmp, conv2s, conv2, convs_refl, convs, conv]) (by intro q hq; first | (simp at hq; done) | (simp at hq; omega) | (simp at hq; simp; omega))
end Go.Proofs.Ytloccbmiojhabaa

set_option linter.unusedSimpArgs false
set_option linter.unusedVariables false
set_option maxHeartbeats 4000000
namespace Go.Proofs.Ytloccbmiojhabaa
open Go Go.Amb Go.IntWalk

structure Task where
  id : Int
  b : Int
  c : Int
  d : Int
  due : Int
  f : Int
  wf : ByteArray
  run : ByteArray
  s : ByteArray
def Task.cells (t : Task) : List AV := [.int .i64 t.id, .int .i64 t.b, .int .i64 t.c, .int .i64 t.d, .int .i64 t.due, .int .i64 t.f, .str t.wf, .str t.run, .str t.s]
structure Item where
  task : Task
  holder : ByteArray
  token : Int
  til : Int
  tries : Int
def Item.av (x : Item) : AV := .agg [.int .i64 x.task.id, .int .i64 x.task.b, .int .i64 x.task.c, .int .i64 x.task.d, .int .i64 x.task.due, .int .i64 x.task.f, .str x.task.wf, .str x.task.run, .str x.task.s, .str x.holder, .int .i64 x.token, .int .i64 x.til, .int .i64 x.tries]
@[simp] theorem item_len (x : Item) : (cellsOf x.av).length = 13 := by simp [Item.av]
theorem items_shr (xs : List Item) : ∀ c ∈ flat (xs.map Item.av), c.shr = true := by
  intro c hc
  obtain ⟨y, hy, hcy⟩ := List.mem_flatMap.1 hc
  obtain ⟨x, _, rfl⟩ := List.mem_map.1 hy
  simp only [Item.av, cellsOf, List.mem_cons, List.not_mem_nil, or_false] at hcy
  rcases hcy with rfl | rfl | rfl | rfl | rfl | rfl | rfl | rfl | rfl | rfl | rfl | rfl | rfl <;> rfl
@[simp] theorem clC_item (x : Item) : clC x.av = x.av := by simp [Item.av]
abbrev items (xs : List Item) : AV := .sl .fro (xs.map Item.av)

theorem f43 (xs : List AV) (hu : ∀ x ∈ xs, (cellsOf x).length = 13) (hb : xs.length * 136 ≤ 140737488355328) (hl : xs.length ≤ 9223372036854775807) : ACall Try.prog 43 [.sl .fro xs] (· = .sl (.own 13) xs) := by
  refine a43_of (by simp) ?_
  repeat refine AW.seq ?_
  refine AW.reg ?_
  have hF := True.intro
  repeat (first | refine wD1 ?_ | refine wD2 ?_ | refine wE1 ?_ | refine wE2 ?_ | (refine wE3 ?_; intro _) | (refine wE4 ?_; intro _) | refine wN ?_ | ((with_reducible show evIs _ (_ :: _) _ _); first | refine wQ ?_ | refine wF ?_ | refine wG ?_ | refine wT ?_ | refine wM ?_ | refine wS ?_ | refine wP ?_ | refine wJ ?_ | refine wX ?_ | refine wY ?_))
  clear hF
  repeat refine evDone ?_
  try (show AW _ _ _ _ _)
  repeat refine AW.seq ?_
  refine AW.reg ?_
  have hF := True.intro
  repeat (first | refine wD1 ?_ | refine wD2 ?_ | refine wE1 ?_ | refine wE2 ?_ | (refine wE3 ?_; intro _) | (refine wE4 ?_; intro _) | refine wN ?_ | ((with_reducible show evIs _ (_ :: _) _ _); first | refine wQ ?_ | refine wF ?_ | refine wG ?_ | refine wT ?_ | refine wM ?_ | refine wS ?_ | refine wP ?_ | refine wJ ?_ | refine wX ?_ | refine wY ?_))
  clear hF
  repeat refine evDone ?_
  try (show AW _ _ _ _ _)
  refine evZ rfl rfl rfl (by conv => lhs; simp) (by simp) rfl ?_
  intro b hbz
  show AW _ _ _ _ _
  cases b
  · repeat refine AW.seq ?_
    refine AW.condF (by simp []) (by simp []) ?_
    refine AW.skip ?_
    show AW _ _ _ _ _
    repeat refine AW.seq ?_
    refine AW.reg ?_
    have hF := And.intro (hb) (And.intro (hl) (eq_true hu))
    repeat (first | refine wD1 ?_ | refine wD2 ?_ | refine wE1 ?_ | refine wE2 ?_ | (refine wE3 ?_; intro _) | (refine wE4 ?_; intro _) | refine wN ?_ | ((with_reducible show evIs _ (_ :: _) _ _); first | refine wQ ?_ | refine wF ?_ | refine wG ?_ | refine wT ?_ | refine wM ?_ | refine wS ?_ | refine wP ?_ | refine wJ ?_ | refine wX ?_ | refine wY ?_))
    clear hF
    repeat refine evDone ?_
    try (show AW _ _ _ _ _)
    refine AW.ret (retI rfl ?_)
    simp [a43_res, resOk, resP, resV, ARes.op, R2s, R2, R1s, R1, closeOk, closeV]
  · have hx : xs = [] := List.length_eq_zero_iff.1 (by simpa [lenOf] using hbz)
    subst hx
    repeat refine AW.seq ?_
    refine AW.condT (by simp []) (by simp []) ?_
    repeat refine AW.seq ?_
    refine AW.reg ?_
    have hF := True.intro
    repeat (first | refine wD1 ?_ | refine wD2 ?_ | refine wE1 ?_ | refine wE2 ?_ | (refine wE3 ?_; intro _) | (refine wE4 ?_; intro _) | refine wN ?_ | ((with_reducible show evIs _ (_ :: _) _ _); first | refine wQ ?_ | refine wF ?_ | refine wG ?_ | refine wT ?_ | refine wM ?_ | refine wS ?_ | refine wP ?_ | refine wJ ?_ | refine wX ?_ | refine wY ?_))
    clear hF
    repeat refine evDone ?_
    try (show AW _ _ _ _ _)
    refine AW.ret (retI rfl ?_)
    simp [a43_res, resOk, resP, resV, ARes.op, R2s, R2, R1s, R1, closeOk, closeV]
theorem f30 (xs : List AV) (tok : Int) (hu : ∀ x ∈ xs, (cellsOf x).length = 13) (hb : xs.length * 136 ≤ 140737488355328) (hl : xs.length ≤ 9223372036854775807) : ACall Try.prog 30 [.agg [.sl .fro xs, .int .i64 tok]] (· = .agg [.sl (.own 13) xs, .int .i64 tok]) := by
  have ht : xs.take xs.length = xs := List.take_of_length_le (by simp)
  refine a30_of (by simp) ?_
  repeat refine AW.seq ?_
  refine AW.reg ?_
  have hF := True.intro
  repeat (first | refine wD1 ?_ | refine wD2 ?_ | refine wE1 ?_ | refine wE2 ?_ | (refine wE3 ?_; intro _) | (refine wE4 ?_; intro _) | refine wN ?_ | ((with_reducible show evIs _ (_ :: _) _ _); first | refine wQ ?_ | refine wF ?_ | refine wG ?_ | refine wT ?_ | refine wM ?_ | refine wS ?_ | refine wP ?_ | refine wJ ?_ | refine wX ?_ | refine wY ?_))
  clear hF
  repeat refine evDone ?_
  try (show AW _ _ _ _ _)
  repeat refine AW.seq ?_
  refine AW.reg ?_
  have hF := True.intro
  repeat (first | refine wD1 ?_ | refine wD2 ?_ | refine wE1 ?_ | refine wE2 ?_ | (refine wE3 ?_; intro _) | (refine wE4 ?_; intro _) | refine wN ?_ | ((with_reducible show evIs _ (_ :: _) _ _); first | refine wQ ?_ | refine wF ?_ | refine wG ?_ | refine wT ?_ | refine wM ?_ | refine wS ?_ | refine wP ?_ | refine wJ ?_ | refine wX ?_ | refine wY ?_))
  clear hF
  repeat refine evDone ?_
  try (show AW _ _ _ _ _)
  have hF := True.intro
  refine wA (hA := f43 xs hu hb hl) ?_
  clear hF
  have hF := True.intro
  repeat (first | refine wD1 ?_ | refine wD2 ?_ | refine wE1 ?_ | refine wE2 ?_ | (refine wE3 ?_; intro _) | (refine wE4 ?_; intro _) | refine wN ?_ | ((with_reducible show evIs _ (_ :: _) _ _); first | refine wQ ?_ | refine wF ?_ | refine wG ?_ | refine wT ?_ | refine wM ?_ | refine wS ?_ | refine wP ?_ | refine wJ ?_ | refine wX ?_ | refine wY ?_))
  clear hF
  repeat refine evDone ?_
  try (show AW _ _ _ _ _)
  repeat refine AW.seq ?_
  refine AW.reg ?_
  have hF := True.intro
  repeat (first | refine wD1 ?_ | refine wD2 ?_ | refine wE1 ?_ | refine wE2 ?_ | (refine wE3 ?_; intro _) | (refine wE4 ?_; intro _) | refine wN ?_ | ((with_reducible show evIs _ (_ :: _) _ _); first | refine wQ ?_ | refine wF ?_ | refine wG ?_ | refine wT ?_ | refine wM ?_ | refine wS ?_ | refine wP ?_ | refine wJ ?_ | refine wX ?_ | refine wY ?_))
  clear hF
  repeat refine evDone ?_
  try (show AW _ _ _ _ _)
  refine AW.ret (retI rfl ?_)
  simp [ht, a30_res, resOk, resP, resV, ARes.op, R2s, R2, R1s, R1, closeOk, closeV]
theorem f30b (N : Nat) (xs : List AV) (tok : Int) (hu : ∀ x ∈ xs, (cellsOf x).length = 13) (hb : xs.length * 136 ≤ 140737488355328) (hl : xs.length ≤ 9223372036854775807) :
    BCall Try.prog 30 [] N [.agg [.sl .fro xs, .int .i64 tok]] (fun H1 n' v => H1 = [(N + 4, ⟨13, false, xs⟩)] ∧ n' = N + 20 ∧ v = .agg [.hdr (N + 4) 0 xs.length, .int .i64 tok]) := by
  have hnl : ∀ k, (N + k < N) = False := fun k => eq_false (by omega)
  refine bcall_coded a30_ok (by simp) ?_
  repeat refine AW.seq ?_
  refine AW.reg ?_
  have hF := hnl
  repeat (first | refine wD1 ?_ | refine wD2 ?_ | refine wE1 ?_ | refine wE2 ?_ | (refine wE3 ?_; intro _) | (refine wE4 ?_; intro _) | refine wN ?_ | ((with_reducible show evIs _ (_ :: _) _ _); first | refine wQ ?_ | refine wF ?_ | refine wG ?_ | refine wT ?_ | refine wM ?_ | refine wS ?_ | refine wP ?_ | refine wJ ?_ | refine wX ?_ | refine wY ?_))
  clear hF
  repeat refine evDone ?_
  try (show AW _ _ _ _ _)
  repeat refine AW.seq ?_
  refine AW.reg ?_
  have hF := hnl
  repeat (first | refine wD1 ?_ | refine wD2 ?_ | refine wE1 ?_ | refine wE2 ?_ | (refine wE3 ?_; intro _) | (refine wE4 ?_; intro _) | refine wN ?_ | ((with_reducible show evIs _ (_ :: _) _ _); first | refine wQ ?_ | refine wF ?_ | refine wG ?_ | refine wT ?_ | refine wM ?_ | refine wS ?_ | refine wP ?_ | refine wJ ?_ | refine wX ?_ | refine wY ?_))
  clear hF
  repeat refine evDone ?_
  try (show AW _ _ _ _ _)
  have hF := hnl
  refine wA (hA := f43 xs hu hb hl) ?_
  clear hF
  have hF := hnl
  repeat (first | refine wD1 ?_ | refine wD2 ?_ | refine wE1 ?_ | refine wE2 ?_ | (refine wE3 ?_; intro _) | (refine wE4 ?_; intro _) | refine wN ?_ | ((with_reducible show evIs _ (_ :: _) _ _); first | refine wQ ?_ | refine wF ?_ | refine wG ?_ | refine wT ?_ | refine wM ?_ | refine wS ?_ | refine wP ?_ | refine wJ ?_ | refine wX ?_ | refine wY ?_))
  clear hF
  repeat refine evDone ?_
  try (show AW _ _ _ _ _)
  repeat refine AW.seq ?_
  refine AW.reg ?_
  have hF := True.intro
  repeat (first | refine wD1 ?_ | refine wD2 ?_ | refine wE1 ?_ | refine wE2 ?_ | (refine wE3 ?_; intro _) | (refine wE4 ?_; intro _) | refine wN ?_ | ((with_reducible show evIs _ (_ :: _) _ _); first | refine wQ ?_ | refine wF ?_ | refine wG ?_ | refine wT ?_ | refine wM ?_ | refine wS ?_ | refine wP ?_ | refine wJ ?_ | refine wX ?_ | refine wY ?_))
  clear hF
  repeat refine evDone ?_
  try (show AW _ _ _ _ _)
  refine AW.ret ⟨by simp [resP, a30_res, ARes.op], [(N + 4, ⟨13, false, xs⟩)], N + 20, [.agg [.hdr (N + 4) 0 xs.length, .int .i64 tok]], ⟨rfl, rfl, rfl⟩, by omega, by simp, rfl, by simp, ?_⟩
  simp only [resV, a30_res, List.map_cons, List.map_nil, ARes.op]
  refine Fit.mk _ _ _ (by simp [conv2, newEmp, convs_refl, convs, conv]) (by simp [heapFit, newEmp, conv2s, conv2, convs_refl, convs, conv]) (by intro q hq; first | (simp at hq; done) | (simp at hq; omega) | (simp at hq; simp; omega))
end Go.Proofs.Ytloccbmiojhabaa

set_option linter.unusedSimpArgs false
set_option linter.unusedVariables false
set_option maxHeartbeats 4000000
namespace Go.Proofs.Ytloccbmiojhabaa
open Go Go.Amb Go.IntWalk

def per (now ttl : Int) : Bool := decide (0 ≤ now) && decide (now ≤ 1099511627776) && decide (1 ≤ ttl) && decide (ttl ≤ 1099511627776)
theorem f33 (now ttl : Int) : ACall Try.prog 33 [.int .i64 now, .int .i64 ttl] (· = .bool (per now ttl)) := by
  refine a33_of (by simp) ?_
  repeat refine AW.seq ?_
  refine AW.reg ?_
  have hF := True.intro
  repeat (first | refine wD1 ?_ | refine wD2 ?_ | refine wE1 ?_ | refine wE2 ?_ | (refine wE3 ?_; intro _) | (refine wE4 ?_; intro _) | refine wN ?_ | ((with_reducible show evIs _ (_ :: _) _ _); first | refine wQ ?_ | refine wF ?_ | refine wG ?_ | refine wT ?_ | refine wM ?_ | refine wS ?_ | refine wP ?_ | refine wJ ?_ | refine wX ?_ | refine wY ?_))
  clear hF
  repeat refine evDone ?_
  try (show AW _ _ _ _ _)
  repeat refine AW.seq ?_
  refine AW.reg ?_
  by_cases h1 : 0 ≤ now
  · by_cases h2 : now ≤ 1099511627776
    · by_cases h3 : 1 ≤ ttl
      · have hF := And.intro (h1) (And.intro (h2) (h3))
        repeat (first | refine wD1 ?_ | refine wD2 ?_ | refine wE1 ?_ | refine wE2 ?_ | (refine wE3 ?_; intro _) | (refine wE4 ?_; intro _) | refine wN ?_ | ((with_reducible show evIs _ (_ :: _) _ _); first | refine wQ ?_ | refine wF ?_ | refine wG ?_ | refine wT ?_ | refine wM ?_ | refine wS ?_ | refine wP ?_ | refine wJ ?_ | refine wX ?_ | refine wY ?_))
        clear hF
        repeat refine evDone ?_
        try (show AW _ _ _ _ _)
        refine AW.ret (retI rfl ?_)
        simp [per, h1, h2, h3, a33_res, resOk, resP, resV, ARes.op, R2s, R2, R1s, R1, closeOk, closeV]
      · have hF := And.intro (h1) (And.intro (h2) (h3))
        repeat (first | refine wD1 ?_ | refine wD2 ?_ | refine wE1 ?_ | refine wE2 ?_ | (refine wE3 ?_; intro _) | (refine wE4 ?_; intro _) | refine wN ?_ | ((with_reducible show evIs _ (_ :: _) _ _); first | refine wQ ?_ | refine wF ?_ | refine wG ?_ | refine wT ?_ | refine wM ?_ | refine wS ?_ | refine wP ?_ | refine wJ ?_ | refine wX ?_ | refine wY ?_))
        clear hF
        repeat refine evDone ?_
        try (show AW _ _ _ _ _)
        refine AW.ret (retI rfl ?_)
        simp [per, h1, h2, h3, a33_res, resOk, resP, resV, ARes.op, R2s, R2, R1s, R1, closeOk, closeV]
    · have hF := And.intro (h1) (h2)
      repeat (first | refine wD1 ?_ | refine wD2 ?_ | refine wE1 ?_ | refine wE2 ?_ | (refine wE3 ?_; intro _) | (refine wE4 ?_; intro _) | refine wN ?_ | ((with_reducible show evIs _ (_ :: _) _ _); first | refine wQ ?_ | refine wF ?_ | refine wG ?_ | refine wT ?_ | refine wM ?_ | refine wS ?_ | refine wP ?_ | refine wJ ?_ | refine wX ?_ | refine wY ?_))
      clear hF
      repeat refine evDone ?_
      try (show AW _ _ _ _ _)
      refine AW.ret (retI rfl ?_)
      simp [per, h1, h2, a33_res, resOk, resP, resV, ARes.op, R2s, R2, R1s, R1, closeOk, closeV]
  · have hF := h1
    repeat (first | refine wD1 ?_ | refine wD2 ?_ | refine wE1 ?_ | refine wE2 ?_ | (refine wE3 ?_; intro _) | (refine wE4 ?_; intro _) | refine wN ?_ | ((with_reducible show evIs _ (_ :: _) _ _); first | refine wQ ?_ | refine wF ?_ | refine wG ?_ | refine wT ?_ | refine wM ?_ | refine wS ?_ | refine wP ?_ | refine wJ ?_ | refine wX ?_ | refine wY ?_))
    clear hF
    repeat refine evDone ?_
    try (show AW _ _ _ _ _)
    refine AW.ret (retI rfl ?_)
    simp [per, h1, a33_res, resOk, resP, resV, ARes.op, R2s, R2, R1s, R1, closeOk, closeV]
theorem f37 (now ttl : Int) : ACall Try.prog 37 [.int .i64 now, .int .i64 ttl] (· = .int .i64 (if per now ttl then 0 else 2)) := by
  refine a37_of (by simp) ?_
  repeat refine AW.seq ?_
  refine AW.reg ?_
  have hF := True.intro
  repeat (first | refine wD1 ?_ | refine wD2 ?_ | refine wE1 ?_ | refine wE2 ?_ | (refine wE3 ?_; intro _) | (refine wE4 ?_; intro _) | refine wN ?_ | ((with_reducible show evIs _ (_ :: _) _ _); first | refine wQ ?_ | refine wF ?_ | refine wG ?_ | refine wT ?_ | refine wM ?_ | refine wS ?_ | refine wP ?_ | refine wJ ?_ | refine wX ?_ | refine wY ?_))
  clear hF
  repeat refine evDone ?_
  try (show AW _ _ _ _ _)
  repeat refine AW.seq ?_
  refine AW.reg ?_
  by_cases h1 : now < 0
  · have h1' : ¬ 0 ≤ now := by omega
    have hF := h1
    repeat (first | refine wD1 ?_ | refine wD2 ?_ | refine wE1 ?_ | refine wE2 ?_ | (refine wE3 ?_; intro _) | (refine wE4 ?_; intro _) | refine wN ?_ | ((with_reducible show evIs _ (_ :: _) _ _); first | refine wQ ?_ | refine wF ?_ | refine wG ?_ | refine wT ?_ | refine wM ?_ | refine wS ?_ | refine wP ?_ | refine wJ ?_ | refine wX ?_ | refine wY ?_))
    clear hF
    repeat refine evDone ?_
    try (show AW _ _ _ _ _)
    repeat refine AW.seq ?_
    refine AW.condT (by simp []) (by simp []) ?_
    repeat refine AW.seq ?_
    refine AW.reg ?_
    have hF := True.intro
    repeat (first | refine wD1 ?_ | refine wD2 ?_ | refine wE1 ?_ | refine wE2 ?_ | (refine wE3 ?_; intro _) | (refine wE4 ?_; intro _) | refine wN ?_ | ((with_reducible show evIs _ (_ :: _) _ _); first | refine wQ ?_ | refine wF ?_ | refine wG ?_ | refine wT ?_ | refine wM ?_ | refine wS ?_ | refine wP ?_ | refine wJ ?_ | refine wX ?_ | refine wY ?_))
    clear hF
    repeat refine evDone ?_
    try (show AW _ _ _ _ _)
    refine AW.ret (retI rfl ?_)
    simp [per, h1', a37_res, resOk, resP, resV, ARes.op, R2s, R2, R1s, R1, closeOk, closeV]
  · have h1' : 0 ≤ now := by omega
    by_cases h2 : 1099511627776 < now
    · have h2' : ¬ now ≤ 1099511627776 := by omega
      have hF := And.intro (h1) (h2)
      repeat (first | refine wD1 ?_ | refine wD2 ?_ | refine wE1 ?_ | refine wE2 ?_ | (refine wE3 ?_; intro _) | (refine wE4 ?_; intro _) | refine wN ?_ | ((with_reducible show evIs _ (_ :: _) _ _); first | refine wQ ?_ | refine wF ?_ | refine wG ?_ | refine wT ?_ | refine wM ?_ | refine wS ?_ | refine wP ?_ | refine wJ ?_ | refine wX ?_ | refine wY ?_))
      clear hF
      repeat refine evDone ?_
      try (show AW _ _ _ _ _)
      repeat refine AW.seq ?_
      refine AW.condT (by simp []) (by simp []) ?_
      repeat refine AW.seq ?_
      refine AW.reg ?_
      have hF := True.intro
      repeat (first | refine wD1 ?_ | refine wD2 ?_ | refine wE1 ?_ | refine wE2 ?_ | (refine wE3 ?_; intro _) | (refine wE4 ?_; intro _) | refine wN ?_ | ((with_reducible show evIs _ (_ :: _) _ _); first | refine wQ ?_ | refine wF ?_ | refine wG ?_ | refine wT ?_ | refine wM ?_ | refine wS ?_ | refine wP ?_ | refine wJ ?_ | refine wX ?_ | refine wY ?_))
      clear hF
      repeat refine evDone ?_
      try (show AW _ _ _ _ _)
      refine AW.ret (retI rfl ?_)
      simp [per, h1', h2', a37_res, resOk, resP, resV, ARes.op, R2s, R2, R1s, R1, closeOk, closeV]
    · have h2' : now ≤ 1099511627776 := by omega
      by_cases h3 : ttl < 1
      · have h3' : ¬ 1 ≤ ttl := by omega
        have hF := And.intro (h1) (And.intro (h2) (h3))
        repeat (first | refine wD1 ?_ | refine wD2 ?_ | refine wE1 ?_ | refine wE2 ?_ | (refine wE3 ?_; intro _) | (refine wE4 ?_; intro _) | refine wN ?_ | ((with_reducible show evIs _ (_ :: _) _ _); first | refine wQ ?_ | refine wF ?_ | refine wG ?_ | refine wT ?_ | refine wM ?_ | refine wS ?_ | refine wP ?_ | refine wJ ?_ | refine wX ?_ | refine wY ?_))
        clear hF
        repeat refine evDone ?_
        try (show AW _ _ _ _ _)
        repeat refine AW.seq ?_
        refine AW.condT (by simp []) (by simp []) ?_
        repeat refine AW.seq ?_
        refine AW.reg ?_
        have hF := True.intro
        repeat (first | refine wD1 ?_ | refine wD2 ?_ | refine wE1 ?_ | refine wE2 ?_ | (refine wE3 ?_; intro _) | (refine wE4 ?_; intro _) | refine wN ?_ | ((with_reducible show evIs _ (_ :: _) _ _); first | refine wQ ?_ | refine wF ?_ | refine wG ?_ | refine wT ?_ | refine wM ?_ | refine wS ?_ | refine wP ?_ | refine wJ ?_ | refine wX ?_ | refine wY ?_))
        clear hF
        repeat refine evDone ?_
        try (show AW _ _ _ _ _)
        refine AW.ret (retI rfl ?_)
        simp [per, h1', h2', h3', a37_res, resOk, resP, resV, ARes.op, R2s, R2, R1s, R1, closeOk, closeV]
      · have h3' : 1 ≤ ttl := by omega
        by_cases h4 : 1099511627776 < ttl
        · have h4' : ¬ ttl ≤ 1099511627776 := by omega
          have hF := And.intro (h1) (And.intro (h2) (And.intro (h3) (h4)))
          repeat (first | refine wD1 ?_ | refine wD2 ?_ | refine wE1 ?_ | refine wE2 ?_ | (refine wE3 ?_; intro _) | (refine wE4 ?_; intro _) | refine wN ?_ | ((with_reducible show evIs _ (_ :: _) _ _); first | refine wQ ?_ | refine wF ?_ | refine wG ?_ | refine wT ?_ | refine wM ?_ | refine wS ?_ | refine wP ?_ | refine wJ ?_ | refine wX ?_ | refine wY ?_))
          clear hF
          repeat refine evDone ?_
          try (show AW _ _ _ _ _)
          repeat refine AW.seq ?_
          refine AW.condT (by simp []) (by simp []) ?_
          repeat refine AW.seq ?_
          refine AW.reg ?_
          have hF := True.intro
          repeat (first | refine wD1 ?_ | refine wD2 ?_ | refine wE1 ?_ | refine wE2 ?_ | (refine wE3 ?_; intro _) | (refine wE4 ?_; intro _) | refine wN ?_ | ((with_reducible show evIs _ (_ :: _) _ _); first | refine wQ ?_ | refine wF ?_ | refine wG ?_ | refine wT ?_ | refine wM ?_ | refine wS ?_ | refine wP ?_ | refine wJ ?_ | refine wX ?_ | refine wY ?_))
          clear hF
          repeat refine evDone ?_
          try (show AW _ _ _ _ _)
          refine AW.ret (retI rfl ?_)
          simp [per, h1', h2', h3', h4', a37_res, resOk, resP, resV, ARes.op, R2s, R2, R1s, R1, closeOk, closeV]
        · have h4' : ttl ≤ 1099511627776 := by omega
          have hF := And.intro (h1) (And.intro (h2) (And.intro (h3) (h4)))
          repeat (first | refine wD1 ?_ | refine wD2 ?_ | refine wE1 ?_ | refine wE2 ?_ | (refine wE3 ?_; intro _) | (refine wE4 ?_; intro _) | refine wN ?_ | ((with_reducible show evIs _ (_ :: _) _ _); first | refine wQ ?_ | refine wF ?_ | refine wG ?_ | refine wT ?_ | refine wM ?_ | refine wS ?_ | refine wP ?_ | refine wJ ?_ | refine wX ?_ | refine wY ?_))
          clear hF
          repeat refine evDone ?_
          try (show AW _ _ _ _ _)
          repeat refine AW.seq ?_
          refine AW.condF (by simp []) (by simp []) ?_
          refine AW.skip ?_
          show AW _ _ _ _ _
          repeat refine AW.seq ?_
          refine AW.reg ?_
          have hF := True.intro
          repeat (first | refine wD1 ?_ | refine wD2 ?_ | refine wE1 ?_ | refine wE2 ?_ | (refine wE3 ?_; intro _) | (refine wE4 ?_; intro _) | refine wN ?_ | ((with_reducible show evIs _ (_ :: _) _ _); first | refine wQ ?_ | refine wF ?_ | refine wG ?_ | refine wT ?_ | refine wM ?_ | refine wS ?_ | refine wP ?_ | refine wJ ?_ | refine wX ?_ | refine wY ?_))
          clear hF
          repeat refine evDone ?_
          try (show AW _ _ _ _ _)
          refine AW.ret (retI rfl ?_)
          simp [per, h1', h2', h3', h4', a37_res, resOk, resP, resV, ARes.op, R2s, R2, R1s, R1, closeOk, closeV]
def avail (x : Item) (now : Int) : Bool := (decide (x.holder = ⟨#[]⟩) || decide (x.til ≤ now)) && decide (x.task.due ≤ now)
theorem f36 (x : Item) (now : Int) : ACall Try.prog 36 [x.av, .int .i64 now] (· = .bool (avail x now)) := by
  obtain ⟨⟨t1, t2, t3, t4, t5, t6, t7, t8, t9⟩, hd, tk, tl, tr⟩ := x
  simp only [Item.av, avail]
  refine a36_of (by simp) ?_
  repeat refine AW.seq ?_
  refine AW.reg ?_
  have hF := True.intro
  repeat (first | refine wD1 ?_ | refine wD2 ?_ | refine wE1 ?_ | refine wE2 ?_ | (refine wE3 ?_; intro _) | (refine wE4 ?_; intro _) | refine wN ?_ | ((with_reducible show evIs _ (_ :: _) _ _); first | refine wQ ?_ | refine wF ?_ | refine wG ?_ | refine wT ?_ | refine wM ?_ | refine wS ?_ | refine wP ?_ | refine wJ ?_ | refine wX ?_ | refine wY ?_))
  clear hF
  repeat refine evDone ?_
  try (show AW _ _ _ _ _)
  repeat refine AW.seq ?_
  refine AW.reg ?_
  by_cases h1 : hd = ⟨#[]⟩
  · have hF := h1
    repeat (first | refine wD1 ?_ | refine wD2 ?_ | refine wE1 ?_ | refine wE2 ?_ | (refine wE3 ?_; intro _) | (refine wE4 ?_; intro _) | refine wN ?_ | ((with_reducible show evIs _ (_ :: _) _ _); first | refine wQ ?_ | refine wF ?_ | refine wG ?_ | refine wT ?_ | refine wM ?_ | refine wS ?_ | refine wP ?_ | refine wJ ?_ | refine wX ?_ | refine wY ?_))
    clear hF
    repeat refine evDone ?_
    try (show AW _ _ _ _ _)
    refine AW.ret (retI rfl ?_)
    simp [h1, a36_res, resOk, resP, resV, ARes.op, R2s, R2, R1s, R1, closeOk, closeV]
  · by_cases h2 : tl ≤ now
    · have hF := And.intro (h1) (h2)
      repeat (first | refine wD1 ?_ | refine wD2 ?_ | refine wE1 ?_ | refine wE2 ?_ | (refine wE3 ?_; intro _) | (refine wE4 ?_; intro _) | refine wN ?_ | ((with_reducible show evIs _ (_ :: _) _ _); first | refine wQ ?_ | refine wF ?_ | refine wG ?_ | refine wT ?_ | refine wM ?_ | refine wS ?_ | refine wP ?_ | refine wJ ?_ | refine wX ?_ | refine wY ?_))
      clear hF
      repeat refine evDone ?_
      try (show AW _ _ _ _ _)
      refine AW.ret (retI rfl ?_)
      simp [h1, h2, a36_res, resOk, resP, resV, ARes.op, R2s, R2, R1s, R1, closeOk, closeV]
    · have hF := And.intro (h1) (h2)
      repeat (first | refine wD1 ?_ | refine wD2 ?_ | refine wE1 ?_ | refine wE2 ?_ | (refine wE3 ?_; intro _) | (refine wE4 ?_; intro _) | refine wN ?_ | ((with_reducible show evIs _ (_ :: _) _ _); first | refine wQ ?_ | refine wF ?_ | refine wG ?_ | refine wT ?_ | refine wM ?_ | refine wS ?_ | refine wP ?_ | refine wJ ?_ | refine wX ?_ | refine wY ?_))
      clear hF
      repeat refine evDone ?_
      try (show AW _ _ _ _ _)
      refine AW.ret (retI rfl ?_)
      simp [h1, h2, a36_res, resOk, resP, resV, ARes.op, R2s, R2, R1s, R1, closeOk, closeV]
theorem f38 (x : Item) (now : Int) : ACall Try.prog 38 [x.av, .int .i64 now] (· = .bool (avail x now)) := by
  obtain ⟨⟨t1, t2, t3, t4, t5, t6, t7, t8, t9⟩, hd, tk, tl, tr⟩ := x
  simp only [Item.av, avail]
  refine a38_of (by simp) ?_
  repeat refine AW.seq ?_
  refine AW.reg ?_
  have hF := True.intro
  repeat (first | refine wD1 ?_ | refine wD2 ?_ | refine wE1 ?_ | refine wE2 ?_ | (refine wE3 ?_; intro _) | (refine wE4 ?_; intro _) | refine wN ?_ | ((with_reducible show evIs _ (_ :: _) _ _); first | refine wQ ?_ | refine wF ?_ | refine wG ?_ | refine wT ?_ | refine wM ?_ | refine wS ?_ | refine wP ?_ | refine wJ ?_ | refine wX ?_ | refine wY ?_))
  clear hF
  repeat refine evDone ?_
  try (show AW _ _ _ _ _)
  repeat refine AW.seq ?_
  refine AW.reg ?_
  by_cases h1 : hd = ⟨#[]⟩
  · have hF := h1
    repeat (first | refine wD1 ?_ | refine wD2 ?_ | refine wE1 ?_ | refine wE2 ?_ | (refine wE3 ?_; intro _) | (refine wE4 ?_; intro _) | refine wN ?_ | ((with_reducible show evIs _ (_ :: _) _ _); first | refine wQ ?_ | refine wF ?_ | refine wG ?_ | refine wT ?_ | refine wM ?_ | refine wS ?_ | refine wP ?_ | refine wJ ?_ | refine wX ?_ | refine wY ?_))
    clear hF
    repeat refine evDone ?_
    try (show AW _ _ _ _ _)
    refine AW.ret (retI rfl ?_)
    simp [h1, a38_res, resOk, resP, resV, ARes.op, R2s, R2, R1s, R1, closeOk, closeV]
  · by_cases h2 : tl ≤ now
    · have hF := And.intro (h1) (h2)
      repeat (first | refine wD1 ?_ | refine wD2 ?_ | refine wE1 ?_ | refine wE2 ?_ | (refine wE3 ?_; intro _) | (refine wE4 ?_; intro _) | refine wN ?_ | ((with_reducible show evIs _ (_ :: _) _ _); first | refine wQ ?_ | refine wF ?_ | refine wG ?_ | refine wT ?_ | refine wM ?_ | refine wS ?_ | refine wP ?_ | refine wJ ?_ | refine wX ?_ | refine wY ?_))
      clear hF
      repeat refine evDone ?_
      try (show AW _ _ _ _ _)
      refine AW.ret (retI rfl ?_)
      simp [h1, h2, a38_res, resOk, resP, resV, ARes.op, R2s, R2, R1s, R1, closeOk, closeV]
    · have hF := And.intro (h1) (h2)
      repeat (first | refine wD1 ?_ | refine wD2 ?_ | refine wE1 ?_ | refine wE2 ?_ | (refine wE3 ?_; intro _) | (refine wE4 ?_; intro _) | refine wN ?_ | ((with_reducible show evIs _ (_ :: _) _ _); first | refine wQ ?_ | refine wF ?_ | refine wG ?_ | refine wT ?_ | refine wM ?_ | refine wS ?_ | refine wP ?_ | refine wJ ?_ | refine wX ?_ | refine wY ?_))
      clear hF
      repeat refine evDone ?_
      try (show AW _ _ _ _ _)
      refine AW.ret (retI rfl ?_)
      simp [h1, h2, a38_res, resOk, resP, resV, ARes.op, R2s, R2, R1s, R1, closeOk, closeV]
theorem f35 (x : Item) (now : Int) : ACall Try.prog 35 [x.av, .fptr (.int .i64 now) 0] (· = .bool (avail x now)) := by
  have h36 := f36 x now
  simp only [Item.av] at h36 ⊢
  refine a35_of (by simp) ?_
  repeat refine AW.seq ?_
  refine AW.reg ?_
  have hF := True.intro
  repeat (first | refine wD1 ?_ | refine wD2 ?_ | refine wE1 ?_ | refine wE2 ?_ | (refine wE3 ?_; intro _) | (refine wE4 ?_; intro _) | refine wN ?_ | ((with_reducible show evIs _ (_ :: _) _ _); first | refine wQ ?_ | refine wF ?_ | refine wG ?_ | refine wT ?_ | refine wM ?_ | refine wS ?_ | refine wP ?_ | refine wJ ?_ | refine wX ?_ | refine wY ?_))
  clear hF
  repeat refine evDone ?_
  try (show AW _ _ _ _ _)
  repeat refine AW.seq ?_
  refine AW.reg ?_
  have hF := True.intro
  repeat (first | refine wD1 ?_ | refine wD2 ?_ | refine wE1 ?_ | refine wE2 ?_ | (refine wE3 ?_; intro _) | (refine wE4 ?_; intro _) | refine wN ?_ | ((with_reducible show evIs _ (_ :: _) _ _); first | refine wQ ?_ | refine wF ?_ | refine wG ?_ | refine wT ?_ | refine wM ?_ | refine wS ?_ | refine wP ?_ | refine wJ ?_ | refine wX ?_ | refine wY ?_))
  clear hF
  repeat refine evDone ?_
  try (show AW _ _ _ _ _)
  have hF := True.intro
  refine wC (hA := h36) ?_
  clear hF
  have hF := True.intro
  repeat (first | refine wD1 ?_ | refine wD2 ?_ | refine wE1 ?_ | refine wE2 ?_ | (refine wE3 ?_; intro _) | (refine wE4 ?_; intro _) | refine wN ?_ | ((with_reducible show evIs _ (_ :: _) _ _); first | refine wQ ?_ | refine wF ?_ | refine wG ?_ | refine wT ?_ | refine wM ?_ | refine wS ?_ | refine wP ?_ | refine wJ ?_ | refine wX ?_ | refine wY ?_))
  clear hF
  repeat refine evDone ?_
  try (show AW _ _ _ _ _)
  refine AW.ret (retI rfl ?_)
  simp [a35_res, resOk, resP, resV, ARes.op, R2s, R2, R1s, R1, closeOk, closeV]
def tokIs (t : Int) (x : Item) : Bool := decide (x.token = t)
theorem f44 (x : Item) (t : Int) : ACall Try.prog 44 [x.av, .fptr (.int .i64 t) 0] (· = .bool (tokIs t x)) := by
  obtain ⟨⟨t1, t2, t3, t4, t5, t6, t7, t8, t9⟩, hd, tk, tl, tr⟩ := x
  simp only [Item.av, tokIs]
  refine a44_of (by simp) ?_
  repeat refine AW.seq ?_
  refine AW.reg ?_
  have hF := True.intro
  repeat (first | refine wD1 ?_ | refine wD2 ?_ | refine wE1 ?_ | refine wE2 ?_ | (refine wE3 ?_; intro _) | (refine wE4 ?_; intro _) | refine wN ?_ | ((with_reducible show evIs _ (_ :: _) _ _); first | refine wQ ?_ | refine wF ?_ | refine wG ?_ | refine wT ?_ | refine wM ?_ | refine wS ?_ | refine wP ?_ | refine wJ ?_ | refine wX ?_ | refine wY ?_))
  clear hF
  repeat refine evDone ?_
  try (show AW _ _ _ _ _)
  repeat refine AW.seq ?_
  refine AW.reg ?_
  by_cases h : tk = t
  · have hF := h
    repeat (first | refine wD1 ?_ | refine wD2 ?_ | refine wE1 ?_ | refine wE2 ?_ | (refine wE3 ?_; intro _) | (refine wE4 ?_; intro _) | refine wN ?_ | ((with_reducible show evIs _ (_ :: _) _ _); first | refine wQ ?_ | refine wF ?_ | refine wG ?_ | refine wT ?_ | refine wM ?_ | refine wS ?_ | refine wP ?_ | refine wJ ?_ | refine wX ?_ | refine wY ?_))
    clear hF
    repeat refine evDone ?_
    try (show AW _ _ _ _ _)
    refine AW.ret (retI rfl ?_)
    simp [h, a44_res, resOk, resP, resV, ARes.op, R2s, R2, R1s, R1, closeOk, closeV]
  · have hF := h
    repeat (first | refine wD1 ?_ | refine wD2 ?_ | refine wE1 ?_ | refine wE2 ?_ | (refine wE3 ?_; intro _) | (refine wE4 ?_; intro _) | refine wN ?_ | ((with_reducible show evIs _ (_ :: _) _ _); first | refine wQ ?_ | refine wF ?_ | refine wG ?_ | refine wT ?_ | refine wM ?_ | refine wS ?_ | refine wP ?_ | refine wJ ?_ | refine wX ?_ | refine wY ?_))
    clear hF
    repeat refine evDone ?_
    try (show AW _ _ _ _ _)
    refine AW.ret (retI rfl ?_)
    simp [h, a44_res, resOk, resP, resV, ARes.op, R2s, R2, R1s, R1, closeOk, closeV]

def idx (xs : List Item) (p : Item → Bool) : Int := match xs.findIdx? p with | some k => k | none => -1
theorem find_at {xs : List Item} {p : Item → Bool} {i : Nat} {x : Item} (hno : ∀ j, j < i → ∀ x, xs[j]? = some x → p x = false) (hx : xs[i]? = some x) (hp : p x = true) : xs.findIdx? p = some i := by
  rw [List.findIdx?_eq_some_iff_getElem]
  obtain ⟨hi, rfl⟩ := List.getElem?_eq_some_iff.1 hx
  exact ⟨hi, hp, fun j hj => by simpa using hno j hj _ (List.getElem?_eq_getElem (by omega))⟩
theorem find_none {xs : List Item} {p : Item → Bool} (hno : ∀ j, j < xs.length → ∀ x, xs[j]? = some x → p x = false) : xs.findIdx? p = none := by
  rw [List.findIdx?_eq_none_iff]
  intro x hx
  obtain ⟨j, hj, rfl⟩ := List.getElem_of_mem hx
  exact hno j hj _ (List.getElem?_eq_getElem hj)
theorem f34 (xs : List Item) (hlen : xs.length ≤ 9223372036854775807) (g : Nat) (caps : List AV) (p : Item → Bool) (hp : ∀ x ∈ xs, ACall Try.prog g (x.av :: caps) (· = .bool (p x))) (hcap : ∀ h, caps.map (fzA h) = caps) (hok : okAs noF noF caps) :
    ACall Try.prog 34 [items xs, .fn g caps] (· = .int .i64 (idx xs p)) := by
  refine a34_of (by simp) ?_
  repeat refine AW.seq ?_
  refine AW.reg ?_
  have hF := True.intro
  repeat (first | refine wD1 ?_ | refine wD2 ?_ | refine wE1 ?_ | refine wE2 ?_ | (refine wE3 ?_; intro _) | (refine wE4 ?_; intro _) | refine wN ?_ | ((with_reducible show evIs _ (_ :: _) _ _); first | refine wQ ?_ | refine wF ?_ | refine wG ?_ | refine wT ?_ | refine wM ?_ | refine wS ?_ | refine wP ?_ | refine wJ ?_ | refine wX ?_ | refine wY ?_))
  clear hF
  repeat refine evDone ?_
  try (show AW _ _ _ _ _)
  repeat refine AW.seq ?_
  refine AW.reg ?_
  have hF := True.intro
  repeat (first | refine wD1 ?_ | refine wD2 ?_ | refine wE1 ?_ | refine wE2 ?_ | (refine wE3 ?_; intro _) | (refine wE4 ?_; intro _) | refine wN ?_ | ((with_reducible show evIs _ (_ :: _) _ _); first | refine wQ ?_ | refine wF ?_ | refine wG ?_ | refine wT ?_ | refine wM ?_ | refine wS ?_ | refine wP ?_ | refine wJ ?_ | refine wX ?_ | refine wY ?_))
  clear hF
  repeat refine evDone ?_
  try (show AW _ _ _ _ _)
  repeat refine AW.seq ?_
  refine AW.block ?_
  refine AW.loop (fun i : Nat => i ≤ xs.length ∧ ∀ j, j < i → ∀ x, xs[j]? = some x → p x = false) (fun i : Nat => mkS [(0, items xs), (1, .fn g caps), (7, .int .i64 xs.length), (8, .int .i64 i)] [] 0) (fun i => xs.length - i) 0 ⟨by omega, fun j hj => absurd hj (by omega)⟩ ?_ ?_
  · refine Fit.mk _ _ _ (by simp [conv2, newEmp, convs_refl, convs, conv]) (by simp [heapFit, newEmp, conv2s, conv2, convs_refl, convs, conv]) (by intro q hq; first | (simp at hq; done) | (simp at hq; omega) | (simp at hq; simp; omega))
  · rintro i ⟨hi, hno⟩
    repeat refine AW.seq ?_
    refine AW.reg ?_
    by_cases hlt : i < xs.length
    · obtain ⟨x, hx⟩ : ∃ x, xs[i]? = some x := ⟨_, List.getElem?_eq_getElem hlt⟩
      have he := elem_map (f := Item.av) hx
      have hxm : x ∈ xs := List.mem_of_getElem? hx
      have hpx' := hp x hxm
      simp only [Item.av] at he hpx'
      have hF := hlt
      repeat (first | refine wD1 ?_ | refine wD2 ?_ | refine wE1 ?_ | refine wE2 ?_ | (refine wE3 ?_; intro _) | (refine wE4 ?_; intro _) | refine wN ?_ | ((with_reducible show evIs _ (_ :: _) _ _); first | refine wQ ?_ | refine wF ?_ | refine wG ?_ | refine wT ?_ | refine wM ?_ | refine wS ?_ | refine wP ?_ | refine wJ ?_ | refine wX ?_ | refine wY ?_))
      clear hF
      repeat refine evDone ?_
      try (show AW _ _ _ _ _)
      repeat refine AW.seq ?_
      refine AW.condT (by simp []) (by simp []) ?_
      refine AW.skip ?_
      show AW _ _ _ _ _
      refine AW.seq (AW.block ?_)
      repeat refine AW.seq ?_
      refine AW.reg ?_
      have hF := hlt
      repeat (first | refine wD1 ?_ | refine wD2 ?_ | refine wE1 ?_ | refine wE2 ?_ | (refine wE3 ?_; intro _) | (refine wE4 ?_; intro _) | refine wN ?_ | ((with_reducible show evIs _ (_ :: _) _ _); first | refine wQ ?_ | refine wF ?_ | refine wG ?_ | refine wT ?_ | refine wM ?_ | refine wS ?_ | refine wP ?_ | refine wJ ?_ | refine wX ?_ | refine wY ?_))
      clear hF
      repeat refine evDone ?_
      try (show AW _ _ _ _ _)
      repeat refine AW.seq ?_
      refine AW.reg ?_
      have hF := And.intro (hlt) (he)
      repeat (first | refine wD1 ?_ | refine wD2 ?_ | refine wE1 ?_ | refine wE2 ?_ | (refine wE3 ?_; intro _) | (refine wE4 ?_; intro _) | refine wN ?_ | ((with_reducible show evIs _ (_ :: _) _ _); first | refine wQ ?_ | refine wF ?_ | refine wG ?_ | refine wT ?_ | refine wM ?_ | refine wS ?_ | refine wP ?_ | refine wJ ?_ | refine wX ?_ | refine wY ?_))
      clear hF
      repeat refine evDone ?_
      try (show AW _ _ _ _ _)
      have hF := And.intro (hcap) (hok)
      refine wV (hA := hpx') ?_
      clear hF
      have hF := True.intro
      repeat (first | refine wD1 ?_ | refine wD2 ?_ | refine wE1 ?_ | refine wE2 ?_ | (refine wE3 ?_; intro _) | (refine wE4 ?_; intro _) | refine wN ?_ | ((with_reducible show evIs _ (_ :: _) _ _); first | refine wQ ?_ | refine wF ?_ | refine wG ?_ | refine wT ?_ | refine wM ?_ | refine wS ?_ | refine wP ?_ | refine wJ ?_ | refine wX ?_ | refine wY ?_))
      clear hF
      repeat refine evDone ?_
      try (show AW _ _ _ _ _)
      cases hpx : p x
      · repeat refine AW.seq ?_
        refine AW.condF (by simp [hpx]) (by simp [hpx]) ?_
        refine AW.skip ?_
        show AW _ _ _ _ _
        refine AW.reg ?_
        have hw : IntKind.i64.wrap ((i : Int) + 1) = (i : Int) + 1 := i64_in _ ⟨by omega, by omega⟩
        have hF := hw
        repeat (first | refine wD1 ?_ | refine wD2 ?_ | refine wE1 ?_ | refine wE2 ?_ | (refine wE3 ?_; intro _) | (refine wE4 ?_; intro _) | refine wN ?_ | ((with_reducible show evIs _ (_ :: _) _ _); first | refine wQ ?_ | refine wF ?_ | refine wG ?_ | refine wT ?_ | refine wM ?_ | refine wS ?_ | refine wP ?_ | refine wJ ?_ | refine wX ?_ | refine wY ?_))
        clear hF
        repeat refine evDone ?_
        try (show AW _ _ _ _ _)
        refine ⟨i + 1, ⟨by omega, ?_⟩, by omega, ?_⟩
        · intro j hj y hy
          by_cases hji : j = i
          · subst hji; rw [hx] at hy; injection hy with hy; subst hy; exact hpx
          · exact hno j (by omega) y hy
        · refine Fit.mk _ _ _ (by simp [hw, conv2, newEmp, convs_refl, convs, conv]) (by simp [hw, heapFit, newEmp, conv2s, conv2, convs_refl, convs, conv]) (by intro q hq; first | (simp at hq; done) | (simp at hq; omega) | (simp at hq; simp; omega))
      · repeat refine AW.seq ?_
        refine AW.condT (by simp [hpx]) (by simp [hpx]) ?_
        repeat refine AW.seq ?_
        refine AW.reg ?_
        have hF := True.intro
        repeat (first | refine wD1 ?_ | refine wD2 ?_ | refine wE1 ?_ | refine wE2 ?_ | (refine wE3 ?_; intro _) | (refine wE4 ?_; intro _) | refine wN ?_ | ((with_reducible show evIs _ (_ :: _) _ _); first | refine wQ ?_ | refine wF ?_ | refine wG ?_ | refine wT ?_ | refine wM ?_ | refine wS ?_ | refine wP ?_ | refine wJ ?_ | refine wX ?_ | refine wY ?_))
        clear hF
        repeat refine evDone ?_
        try (show AW _ _ _ _ _)
        refine AW.ret (retI rfl ?_)
        simp [idx, find_at hno hx hpx, a34_res, resOk, resP, resV, ARes.op, R2s, R2, R1s, R1, closeOk, closeV]
    · have hlt2 : ¬ (i : Int) < xs.length := by omega
      have hF := And.intro (hlt) (hlt2)
      repeat (first | refine wD1 ?_ | refine wD2 ?_ | refine wE1 ?_ | refine wE2 ?_ | (refine wE3 ?_; intro _) | (refine wE4 ?_; intro _) | refine wN ?_ | ((with_reducible show evIs _ (_ :: _) _ _); first | refine wQ ?_ | refine wF ?_ | refine wG ?_ | refine wT ?_ | refine wM ?_ | refine wS ?_ | refine wP ?_ | refine wJ ?_ | refine wX ?_ | refine wY ?_))
      clear hF
      repeat refine evDone ?_
      try (show AW _ _ _ _ _)
      repeat refine AW.seq ?_
      refine AW.condF (by simp []) (by simp []) ?_
      refine AW.exit ?_
      show AW _ _ _ _ _
      repeat refine AW.seq ?_
      refine AW.reg ?_
      have hF := True.intro
      repeat (first | refine wD1 ?_ | refine wD2 ?_ | refine wE1 ?_ | refine wE2 ?_ | (refine wE3 ?_; intro _) | (refine wE4 ?_; intro _) | refine wN ?_ | ((with_reducible show evIs _ (_ :: _) _ _); first | refine wQ ?_ | refine wF ?_ | refine wG ?_ | refine wT ?_ | refine wM ?_ | refine wS ?_ | refine wP ?_ | refine wJ ?_ | refine wX ?_ | refine wY ?_))
      clear hF
      repeat refine evDone ?_
      try (show AW _ _ _ _ _)
      refine AW.ret (retI rfl ?_)
      simp [idx, find_none (fun j hj => hno j (by omega)), a34_res, resOk, resP, resV, ARes.op, R2s, R2, R1s, R1, closeOk, closeV]
def heldAt (xs : List Item) (t : Int) : Int := if t < 1 then -1 else idx xs (tokIs t)
theorem f39 (xs : List Item) (tok t : Int) (hlen : xs.length ≤ 9223372036854775807) : ACall Try.prog 39 [.agg [items xs, .int .i64 tok], .int .i64 t] (· = .int .i64 (heldAt xs t)) := by
  refine a39_of (by simp) ?_
  repeat refine AW.seq ?_
  refine AW.reg ?_
  have hF := True.intro
  repeat (first | refine wD1 ?_ | refine wD2 ?_ | refine wE1 ?_ | refine wE2 ?_ | (refine wE3 ?_; intro _) | (refine wE4 ?_; intro _) | refine wN ?_ | ((with_reducible show evIs _ (_ :: _) _ _); first | refine wQ ?_ | refine wF ?_ | refine wG ?_ | refine wT ?_ | refine wM ?_ | refine wS ?_ | refine wP ?_ | refine wJ ?_ | refine wX ?_ | refine wY ?_))
  clear hF
  repeat refine evDone ?_
  try (show AW _ _ _ _ _)
  repeat refine AW.seq ?_
  refine AW.reg ?_
  by_cases h : t < 1
  · have hF := h
    repeat (first | refine wD1 ?_ | refine wD2 ?_ | refine wE1 ?_ | refine wE2 ?_ | (refine wE3 ?_; intro _) | (refine wE4 ?_; intro _) | refine wN ?_ | ((with_reducible show evIs _ (_ :: _) _ _); first | refine wQ ?_ | refine wF ?_ | refine wG ?_ | refine wT ?_ | refine wM ?_ | refine wS ?_ | refine wP ?_ | refine wJ ?_ | refine wX ?_ | refine wY ?_))
    clear hF
    repeat refine evDone ?_
    try (show AW _ _ _ _ _)
    repeat refine AW.seq ?_
    refine AW.condT (by simp []) (by simp []) ?_
    repeat refine AW.seq ?_
    refine AW.reg ?_
    have hF := True.intro
    repeat (first | refine wD1 ?_ | refine wD2 ?_ | refine wE1 ?_ | refine wE2 ?_ | (refine wE3 ?_; intro _) | (refine wE4 ?_; intro _) | refine wN ?_ | ((with_reducible show evIs _ (_ :: _) _ _); first | refine wQ ?_ | refine wF ?_ | refine wG ?_ | refine wT ?_ | refine wM ?_ | refine wS ?_ | refine wP ?_ | refine wJ ?_ | refine wX ?_ | refine wY ?_))
    clear hF
    repeat refine evDone ?_
    try (show AW _ _ _ _ _)
    refine AW.ret (retI rfl ?_)
    simp [heldAt, h, a39_res, resOk, resP, resV, ARes.op, R2s, R2, R1s, R1, closeOk, closeV]
  · have hF := h
    repeat (first | refine wD1 ?_ | refine wD2 ?_ | refine wE1 ?_ | refine wE2 ?_ | (refine wE3 ?_; intro _) | (refine wE4 ?_; intro _) | refine wN ?_ | ((with_reducible show evIs _ (_ :: _) _ _); first | refine wQ ?_ | refine wF ?_ | refine wG ?_ | refine wT ?_ | refine wM ?_ | refine wS ?_ | refine wP ?_ | refine wJ ?_ | refine wX ?_ | refine wY ?_))
    clear hF
    repeat refine evDone ?_
    try (show AW _ _ _ _ _)
    repeat refine AW.seq ?_
    refine AW.condF (by simp []) (by simp []) ?_
    refine AW.skip ?_
    show AW _ _ _ _ _
    repeat refine AW.seq ?_
    refine AW.reg ?_
    have hF := True.intro
    repeat (first | refine wD1 ?_ | refine wD2 ?_ | refine wE1 ?_ | refine wE2 ?_ | (refine wE3 ?_; intro _) | (refine wE4 ?_; intro _) | refine wN ?_ | ((with_reducible show evIs _ (_ :: _) _ _); first | refine wQ ?_ | refine wF ?_ | refine wG ?_ | refine wT ?_ | refine wM ?_ | refine wS ?_ | refine wP ?_ | refine wJ ?_ | refine wX ?_ | refine wY ?_))
    clear hF
    repeat refine evDone ?_
    try (show AW _ _ _ _ _)
    refine evC rfl rfl rfl rfl (by conv => lhs; (try simp [elemAt, mapA])) (by conv => lhs; (try simp [elemAt, mapA, fzB, fzQ])) (f34 xs hlen 44 [.fptr (.int .i64 t) 0] (tokIs t) (fun x _ => f44 x t) (by simp [mapA]) (by simp)) (by conv => lhs; (try simp [elemAt, mapA, fzB, fzQ])) ?_ ?_ ?_
    (focus (simp [elemAt, mapA]; done))
    (focus (simp [elemAt, mapA, okB, okQ, noF, sc, scs]; done))
    have hF := True.intro
    repeat (first | refine wD1 ?_ | refine wD2 ?_ | refine wE1 ?_ | refine wE2 ?_ | (refine wE3 ?_; intro _) | (refine wE4 ?_; intro _) | refine wN ?_ | ((with_reducible show evIs _ (_ :: _) _ _); first | refine wQ ?_ | refine wF ?_ | refine wG ?_ | refine wT ?_ | refine wM ?_ | refine wS ?_ | refine wP ?_ | refine wJ ?_ | refine wX ?_ | refine wY ?_))
    clear hF
    repeat refine evDone ?_
    try (show AW _ _ _ _ _)
    refine AW.ret (retI rfl ?_)
    simp [heldAt, h, a39_res, resOk, resP, resV, ARes.op, R2s, R2, R1s, R1, closeOk, closeV]
end Go.Proofs.Ytloccbmiojhabaa

set_option linter.unusedSimpArgs false
set_option linter.unusedVariables false
set_option maxHeartbeats 4000000
namespace Go.Proofs.Ytloccbmiojhabaa
open Go Go.Amb Go.IntWalk

theorem f28 (id due : Int) : ACall Try.prog 28 [.int .i64 id, .int .i64 due] (· = .agg [.int .i64 id, .int .i64 1, .int .i64 0, .int .i64 0, .int .i64 due, .int .i64 0, .str ⟨#[119]⟩, .str ⟨#[114, 49]⟩, .str ⟨#[]⟩]) := by
  refine a28_of (by simp) ?_
  repeat refine AW.seq ?_
  refine AW.reg ?_
  have hF := True.intro
  repeat (first | refine wD1 ?_ | refine wD2 ?_ | refine wE1 ?_ | refine wE2 ?_ | (refine wE3 ?_; intro _) | (refine wE4 ?_; intro _) | refine wN ?_ | ((with_reducible show evIs _ (_ :: _) _ _); first | refine wQ ?_ | refine wF ?_ | refine wG ?_ | refine wT ?_ | refine wM ?_ | refine wS ?_ | refine wP ?_ | refine wJ ?_ | refine wX ?_ | refine wY ?_))
  clear hF
  repeat refine evDone ?_
  try (show AW _ _ _ _ _)
  repeat refine AW.seq ?_
  refine AW.reg ?_
  have hF := True.intro
  repeat (first | refine wD1 ?_ | refine wD2 ?_ | refine wE1 ?_ | refine wE2 ?_ | (refine wE3 ?_; intro _) | (refine wE4 ?_; intro _) | refine wN ?_ | ((with_reducible show evIs _ (_ :: _) _ _); first | refine wQ ?_ | refine wF ?_ | refine wG ?_ | refine wT ?_ | refine wM ?_ | refine wS ?_ | refine wP ?_ | refine wJ ?_ | refine wX ?_ | refine wY ?_))
  clear hF
  repeat refine evDone ?_
  try (show AW _ _ _ _ _)
  refine AW.ret (retI rfl ?_)
  simp [a28_res, resOk, resP, resV, ARes.op, R2s, R2, R1s, R1, closeOk, closeV]
theorem f29 (t : Task) : ACall Try.prog 29 [.agg t.cells] (· = .agg [.str t.wf, .str t.run, .int .i64 t.id]) := by
  obtain ⟨t1, t2, t3, t4, t5, t6, t7, t8, t9⟩ := t
  simp only [Task.cells]
  refine a29_of (by simp) ?_
  repeat refine AW.seq ?_
  refine AW.reg ?_
  have hF := True.intro
  repeat (first | refine wD1 ?_ | refine wD2 ?_ | refine wE1 ?_ | refine wE2 ?_ | (refine wE3 ?_; intro _) | (refine wE4 ?_; intro _) | refine wN ?_ | ((with_reducible show evIs _ (_ :: _) _ _); first | refine wQ ?_ | refine wF ?_ | refine wG ?_ | refine wT ?_ | refine wM ?_ | refine wS ?_ | refine wP ?_ | refine wJ ?_ | refine wX ?_ | refine wY ?_))
  clear hF
  repeat refine evDone ?_
  try (show AW _ _ _ _ _)
  repeat refine AW.seq ?_
  refine AW.reg ?_
  have hF := True.intro
  repeat (first | refine wD1 ?_ | refine wD2 ?_ | refine wE1 ?_ | refine wE2 ?_ | (refine wE3 ?_; intro _) | (refine wE4 ?_; intro _) | refine wN ?_ | ((with_reducible show evIs _ (_ :: _) _ _); first | refine wQ ?_ | refine wF ?_ | refine wG ?_ | refine wT ?_ | refine wM ?_ | refine wS ?_ | refine wP ?_ | refine wJ ?_ | refine wX ?_ | refine wY ?_))
  clear hF
  repeat refine evDone ?_
  try (show AW _ _ _ _ _)
  refine AW.ret (retI rfl ?_)
  simp [a29_res, resOk, resP, resV, ARes.op, R2s, R2, R1s, R1, closeOk, closeV]
theorem f31 (xs : List Item) (tok : Int) (hb : xs.length * 136 ≤ 140737488355328) : ACall Try.prog 31 [.agg [items xs, .int .i64 tok]] (· = .agg [.sl (.own 13) (xs.map Item.av), .int .i64 tok]) := by
  have hl : xs.length ≤ 9223372036854775807 := by omega
  have ht : (xs.map Item.av).take xs.length = xs.map Item.av := List.take_of_length_le (by simp)
  refine a31_of (by simp) ?_
  repeat refine AW.seq ?_
  refine AW.reg ?_
  have hF := True.intro
  repeat (first | refine wD1 ?_ | refine wD2 ?_ | refine wE1 ?_ | refine wE2 ?_ | (refine wE3 ?_; intro _) | (refine wE4 ?_; intro _) | refine wN ?_ | ((with_reducible show evIs _ (_ :: _) _ _); first | refine wQ ?_ | refine wF ?_ | refine wG ?_ | refine wT ?_ | refine wM ?_ | refine wS ?_ | refine wP ?_ | refine wJ ?_ | refine wX ?_ | refine wY ?_))
  clear hF
  repeat refine evDone ?_
  try (show AW _ _ _ _ _)
  repeat refine AW.seq ?_
  refine AW.draw ?_
  have hF := And.intro (hb) (hl)
  repeat (first | refine wD1 ?_ | refine wD2 ?_ | refine wE1 ?_ | refine wE2 ?_ | (refine wE3 ?_; intro _) | (refine wE4 ?_; intro _) | refine wN ?_ | ((with_reducible show evIs _ (_ :: _) _ _); first | refine wQ ?_ | refine wF ?_ | refine wG ?_ | refine wT ?_ | refine wM ?_ | refine wS ?_ | refine wP ?_ | refine wJ ?_ | refine wX ?_ | refine wY ?_))
  clear hF
  repeat refine evDone ?_
  try (show AW _ _ _ _ _)
  refine AW.ret (retI rfl ?_)
  simp [ht, a31_res, resOk, resP, resV, ARes.op, R2s, R2, R1s, R1, closeOk, closeV]
theorem f7 (xs : List Item) (tok : Int) : ACall Try.prog 7 [.agg [items xs, .int .i64 tok]] (· = .bool (decide (1001 < (xs.length : Int)))) := by
  refine a7_of (by simp) ?_
  repeat refine AW.seq ?_
  refine AW.reg ?_
  have hF := True.intro
  repeat (first | refine wD1 ?_ | refine wD2 ?_ | refine wE1 ?_ | refine wE2 ?_ | (refine wE3 ?_; intro _) | (refine wE4 ?_; intro _) | refine wN ?_ | ((with_reducible show evIs _ (_ :: _) _ _); first | refine wQ ?_ | refine wF ?_ | refine wG ?_ | refine wT ?_ | refine wM ?_ | refine wS ?_ | refine wP ?_ | refine wJ ?_ | refine wX ?_ | refine wY ?_))
  clear hF
  repeat refine evDone ?_
  try (show AW _ _ _ _ _)
  repeat refine AW.seq ?_
  refine AW.reg ?_
  have hF := True.intro
  repeat (first | refine wD1 ?_ | refine wD2 ?_ | refine wE1 ?_ | refine wE2 ?_ | (refine wE3 ?_; intro _) | (refine wE4 ?_; intro _) | refine wN ?_ | ((with_reducible show evIs _ (_ :: _) _ _); first | refine wQ ?_ | refine wF ?_ | refine wG ?_ | refine wT ?_ | refine wM ?_ | refine wS ?_ | refine wP ?_ | refine wJ ?_ | refine wX ?_ | refine wY ?_))
  clear hF
  repeat refine evDone ?_
  try (show AW _ _ _ _ _)
  refine AW.ret (retI rfl ?_)
  simp [a7_res, resOk, resP, resV, ARes.op, R2s, R2, R1s, R1, closeOk, closeV]
theorem f11 (xs : List Item) (tok : Int) (hb : xs.length * 136 ≤ 140737488355328) : ACall Try.prog 11 [.agg [items xs, .int .i64 tok]] (· = .agg [.sl (.own 13) (xs.map Item.av), .int .i64 tok]) := by
  refine a11_of (by simp) ?_
  repeat refine AW.seq ?_
  refine AW.reg ?_
  have hF := True.intro
  repeat (first | refine wD1 ?_ | refine wD2 ?_ | refine wE1 ?_ | refine wE2 ?_ | (refine wE3 ?_; intro _) | (refine wE4 ?_; intro _) | refine wN ?_ | ((with_reducible show evIs _ (_ :: _) _ _); first | refine wQ ?_ | refine wF ?_ | refine wG ?_ | refine wT ?_ | refine wM ?_ | refine wS ?_ | refine wP ?_ | refine wJ ?_ | refine wX ?_ | refine wY ?_))
  clear hF
  repeat refine evDone ?_
  try (show AW _ _ _ _ _)
  repeat refine AW.seq ?_
  refine AW.reg ?_
  have hF := True.intro
  repeat (first | refine wD1 ?_ | refine wD2 ?_ | refine wE1 ?_ | refine wE2 ?_ | (refine wE3 ?_; intro _) | (refine wE4 ?_; intro _) | refine wN ?_ | ((with_reducible show evIs _ (_ :: _) _ _); first | refine wQ ?_ | refine wF ?_ | refine wG ?_ | refine wT ?_ | refine wM ?_ | refine wS ?_ | refine wP ?_ | refine wJ ?_ | refine wX ?_ | refine wY ?_))
  clear hF
  repeat refine evDone ?_
  try (show AW _ _ _ _ _)
  repeat refine AW.seq ?_
  refine AW.reg ?_
  have hF := True.intro
  repeat (first | refine wD1 ?_ | refine wD2 ?_ | refine wE1 ?_ | refine wE2 ?_ | (refine wE3 ?_; intro _) | (refine wE4 ?_; intro _) | refine wN ?_ | ((with_reducible show evIs _ (_ :: _) _ _); first | refine wQ ?_ | refine wF ?_ | refine wG ?_ | refine wT ?_ | refine wM ?_ | refine wS ?_ | refine wP ?_ | refine wJ ?_ | refine wX ?_ | refine wY ?_))
  clear hF
  repeat refine evDone ?_
  try (show AW _ _ _ _ _)
  repeat refine AW.seq ?_
  refine AW.block ?_
  refine AW.loop (fun g : Nat × Nat × Nat => g.1 ≤ xs.length ∧ g.2.2 < g.2.1 ∧ 6 ≤ g.2.2 ∧ 6 ≤ g.2.1) (fun g => mkS [(2, .ptr 1 0 0), (3, .ptr 5 0 0), (10, items xs), (11, .int .i64 xs.length), (12, .int .i64 g.1)] [(1, ⟨2, true, [.agg [.sl .ext [], .int .i64 0]]⟩), (5, ⟨2, true, [.agg [.hdr g.2.2 0 g.1, .int .i64 tok]]⟩), (g.2.2, ⟨13, false, pre Item.av xs g.1⟩)] g.2.1) (fun g => xs.length - g.1) (0, 20, 10) ⟨by simp, by simp, by simp, by simp⟩ ?_ ?_
  · refine Fit.mk _ _ _ (by simp [pre_zero, conv2, newEmp, convs_refl, convs, conv]) (by simp [pre_zero, heapFit, newEmp, conv2s, conv2, convs_refl, convs, conv]) (by intro q hq; first | (simp at hq; done) | (simp at hq; omega) | (simp at hq; simp; omega))
  · rintro ⟨i, n, r⟩ ⟨hi, hr, hbr, hbn⟩
    dsimp only at hi hr hbr hbn ⊢
    have hne : ∀ k, (r = n + k) = False := fun k => eq_false (by omega)
    have hne' : ∀ k, (n + k = r) = False := fun k => eq_false (by omega)
    have hnl : ∀ k, (n + k < n) = False := fun k => eq_false (by omega)
    have hrn : ∀ k, r < n + k := fun k => by omega
    have hl1 : (r = 1) = False := eq_false (by omega)
    have hm1 : (1 = r) = False := eq_false (by omega)
    have hb1 : ∀ k, 1 < n + k := fun k => by omega
    have hc1 : 1 < n := by omega
    have hl5 : (r = 5) = False := eq_false (by omega)
    have hm5 : (5 = r) = False := eq_false (by omega)
    have hb5 : ∀ k, 5 < n + k := fun k => by omega
    have hc5 : 5 < n := by omega

    repeat refine AW.seq ?_
    refine AW.reg ?_
    by_cases hlt : i < xs.length
    · have hF := hlt
      repeat (first | refine wD1 ?_ | refine wD2 ?_ | refine wE1 ?_ | refine wE2 ?_ | (refine wE3 ?_; intro _) | (refine wE4 ?_; intro _) | refine wN ?_ | ((with_reducible show evIs _ (_ :: _) _ _); first | refine wQ ?_ | refine wF ?_ | refine wG ?_ | refine wT ?_ | refine wM ?_ | refine wS ?_ | refine wP ?_ | refine wJ ?_ | refine wX ?_ | refine wY ?_))
      clear hF
      repeat refine evDone ?_
      try (show AW _ _ _ _ _)
      repeat refine AW.seq ?_
      refine AW.condT (by simp []) (by simp []) ?_
      refine AW.skip ?_
      show AW _ _ _ _ _
      refine AW.seq (AW.block ?_)
      have hx : ∃ x, xs[i]? = some x := ⟨_, List.getElem?_eq_getElem hlt⟩
      obtain ⟨x, hx⟩ := hx
      have he := elem_map (f := Item.av) hx
      have hpl := pre_len (f := Item.av) hi
      have hpa := pre_add (f := Item.av) hx
      obtain ⟨⟨t1, t2, t3, t4, t5, t6, t7, t8, t9⟩, hd, tk, tl, tr⟩ := x
      simp only [Item.av] at he hpa
      have hby : (i + 1) * 136 ≤ 140737488355328 := by omega
      have hby2 : i + 1 ≤ 9223372036854775807 := by omega
      repeat refine AW.seq ?_
      refine AW.reg ?_
      have hF := And.intro (hlt) (And.intro (he) (And.intro (hl1) (And.intro (hl5) (And.intro (hm1) (And.intro (hm5) (And.intro (hne) (And.intro (hne') (hnl))))))))
      repeat (first | refine wD1 ?_ | refine wD2 ?_ | refine wE1 ?_ | refine wE2 ?_ | (refine wE3 ?_; intro _) | (refine wE4 ?_; intro _) | refine wN ?_ | ((with_reducible show evIs _ (_ :: _) _ _); first | refine wQ ?_ | refine wF ?_ | refine wG ?_ | refine wT ?_ | refine wM ?_ | refine wS ?_ | refine wP ?_ | refine wJ ?_ | refine wX ?_ | refine wY ?_))
      clear hF
      repeat refine evDone ?_
      try (show AW _ _ _ _ _)
      repeat refine AW.seq ?_
      refine AW.reg ?_
      have hF := And.intro (hlt) (And.intro (he) (And.intro (hl1) (And.intro (hl5) (And.intro (hm1) (And.intro (hm5) (And.intro (hne) (And.intro (hne') (And.intro (hnl) (And.intro (hpl) (And.intro (hby) (hby2)))))))))))
      repeat (first | refine wD1 ?_ | refine wD2 ?_ | refine wE1 ?_ | refine wE2 ?_ | (refine wE3 ?_; intro _) | (refine wE4 ?_; intro _) | refine wN ?_ | ((with_reducible show evIs _ (_ :: _) _ _); first | refine wQ ?_ | refine wF ?_ | refine wG ?_ | refine wT ?_ | refine wM ?_ | refine wS ?_ | refine wP ?_ | refine wJ ?_ | refine wX ?_ | refine wY ?_))
      clear hF
      repeat refine evDone ?_
      try (show AW _ _ _ _ _)
      refine AW.reg ?_
      have hw : IntKind.i64.wrap ((i : Int) + 1) = (i : Int) + 1 := i64_in _ ⟨by omega, by omega⟩
      have hF := hw
      repeat (first | refine wD1 ?_ | refine wD2 ?_ | refine wE1 ?_ | refine wE2 ?_ | (refine wE3 ?_; intro _) | (refine wE4 ?_; intro _) | refine wN ?_ | ((with_reducible show evIs _ (_ :: _) _ _); first | refine wQ ?_ | refine wF ?_ | refine wG ?_ | refine wT ?_ | refine wM ?_ | refine wS ?_ | refine wP ?_ | refine wJ ?_ | refine wX ?_ | refine wY ?_))
      clear hF
      repeat refine evDone ?_
      try (show AW _ _ _ _ _)
      refine ⟨(i + 1, n + 80, n + 30), ⟨by dsimp only; omega, by dsimp only; omega, by dsimp only; omega, by dsimp only; omega⟩, by dsimp only; omega, ?_⟩
      refine Fit.mk _ _ _ (by simp [hw, hne, hne', hrn, hl1, hm1, hb1, hc1, hl5, hm5, hb5, hc5, hpl, hpa, conv2, newEmp, convs_refl, convs, conv]) (by simp [hw, hne, hne', hrn, hl1, hm1, hb1, hc1, hl5, hm5, hb5, hc5, hpl, hpa, heapFit, newEmp, conv2s, conv2, convs_refl, convs, conv]) (by intro q hq; first | (simp at hq; done) | (simp at hq; omega) | (simp at hq; simp; omega))
    · have hlt2 : ¬ (i : Int) < xs.length := by omega
      have hF := And.intro (hlt) (hlt2)
      repeat (first | refine wD1 ?_ | refine wD2 ?_ | refine wE1 ?_ | refine wE2 ?_ | (refine wE3 ?_; intro _) | (refine wE4 ?_; intro _) | refine wN ?_ | ((with_reducible show evIs _ (_ :: _) _ _); first | refine wQ ?_ | refine wF ?_ | refine wG ?_ | refine wT ?_ | refine wM ?_ | refine wS ?_ | refine wP ?_ | refine wJ ?_ | refine wX ?_ | refine wY ?_))
      clear hF
      repeat refine evDone ?_
      try (show AW _ _ _ _ _)
      repeat refine AW.seq ?_
      refine AW.condF (by simp []) (by simp []) ?_
      refine AW.exit ?_
      show AW _ _ _ _ _
      have hii : i = xs.length := by omega
      subst hii
      have ht : (xs.map Item.av).take xs.length = xs.map Item.av := List.take_of_length_le (by simp)
      repeat refine AW.seq ?_
      refine AW.reg ?_
      have hF := And.intro (hl1) (And.intro (hl5) (And.intro (hm1) (And.intro (hm5) (And.intro (hne) (And.intro (hne') (hnl))))))
      repeat (first | refine wD1 ?_ | refine wD2 ?_ | refine wE1 ?_ | refine wE2 ?_ | (refine wE3 ?_; intro _) | (refine wE4 ?_; intro _) | refine wN ?_ | ((with_reducible show evIs _ (_ :: _) _ _); first | refine wQ ?_ | refine wF ?_ | refine wG ?_ | refine wT ?_ | refine wM ?_ | refine wS ?_ | refine wP ?_ | refine wJ ?_ | refine wX ?_ | refine wY ?_))
      clear hF
      repeat refine evDone ?_
      try (show AW _ _ _ _ _)
      refine AW.ret (retI rfl ?_)
      simp [pre_full, ht, hl1, hl5, hm1, hm5, a11_res, resOk, resP, resV, ARes.op, R2s, R2, R1s, R1, closeOk, closeV]
theorem f32 (xs : List Item) (hl : xs.length ≤ 9223372036854775807) : ACall Try.prog 32 [items xs, items xs] (· = .bool true) := by
  refine a32_of (by simp) ?_
  repeat refine AW.seq ?_
  refine AW.reg ?_
  have hF := True.intro
  repeat (first | refine wD1 ?_ | refine wD2 ?_ | refine wE1 ?_ | refine wE2 ?_ | (refine wE3 ?_; intro _) | (refine wE4 ?_; intro _) | refine wN ?_ | ((with_reducible show evIs _ (_ :: _) _ _); first | refine wQ ?_ | refine wF ?_ | refine wG ?_ | refine wT ?_ | refine wM ?_ | refine wS ?_ | refine wP ?_ | refine wJ ?_ | refine wX ?_ | refine wY ?_))
  clear hF
  repeat refine evDone ?_
  try (show AW _ _ _ _ _)
  repeat refine AW.seq ?_
  refine AW.reg ?_
  have hF := True.intro
  repeat (first | refine wD1 ?_ | refine wD2 ?_ | refine wE1 ?_ | refine wE2 ?_ | (refine wE3 ?_; intro _) | (refine wE4 ?_; intro _) | refine wN ?_ | ((with_reducible show evIs _ (_ :: _) _ _); first | refine wQ ?_ | refine wF ?_ | refine wG ?_ | refine wT ?_ | refine wM ?_ | refine wS ?_ | refine wP ?_ | refine wJ ?_ | refine wX ?_ | refine wY ?_))
  clear hF
  repeat refine evDone ?_
  try (show AW _ _ _ _ _)
  repeat refine AW.seq ?_
  refine AW.condF (by simp []) (by simp []) ?_
  refine AW.skip ?_
  show AW _ _ _ _ _
  repeat refine AW.seq ?_
  refine AW.reg ?_
  have hF := True.intro
  repeat (first | refine wD1 ?_ | refine wD2 ?_ | refine wE1 ?_ | refine wE2 ?_ | (refine wE3 ?_; intro _) | (refine wE4 ?_; intro _) | refine wN ?_ | ((with_reducible show evIs _ (_ :: _) _ _); first | refine wQ ?_ | refine wF ?_ | refine wG ?_ | refine wT ?_ | refine wM ?_ | refine wS ?_ | refine wP ?_ | refine wJ ?_ | refine wX ?_ | refine wY ?_))
  clear hF
  repeat refine evDone ?_
  try (show AW _ _ _ _ _)
  repeat refine AW.seq ?_
  refine AW.block ?_
  refine AW.loop (fun i : Nat => i ≤ xs.length) (fun i => mkS [(0, items xs), (1, items xs), (12, .int .i64 xs.length), (13, .int .i64 i)] [] 10) (fun i => xs.length - i) 0 (by simp) ?_ ?_
  · refine Fit.mk _ _ _ (by simp [conv2, newEmp, convs_refl, convs, conv]) (by simp [heapFit, newEmp, conv2s, conv2, convs_refl, convs, conv]) (by intro q hq; first | (simp at hq; done) | (simp at hq; omega) | (simp at hq; simp; omega))
  · intro i hi

    repeat refine AW.seq ?_
    refine AW.reg ?_
    by_cases hlt : i < xs.length
    · have hF := hlt
      repeat (first | refine wD1 ?_ | refine wD2 ?_ | refine wE1 ?_ | refine wE2 ?_ | (refine wE3 ?_; intro _) | (refine wE4 ?_; intro _) | refine wN ?_ | ((with_reducible show evIs _ (_ :: _) _ _); first | refine wQ ?_ | refine wF ?_ | refine wG ?_ | refine wT ?_ | refine wM ?_ | refine wS ?_ | refine wP ?_ | refine wJ ?_ | refine wX ?_ | refine wY ?_))
      clear hF
      repeat refine evDone ?_
      try (show AW _ _ _ _ _)
      repeat refine AW.seq ?_
      refine AW.condT (by simp []) (by simp []) ?_
      refine AW.skip ?_
      show AW _ _ _ _ _
      refine AW.seq (AW.block ?_)
      have hx : ∃ x, xs[i]? = some x := ⟨_, List.getElem?_eq_getElem hlt⟩
      obtain ⟨x, hx⟩ := hx
      have he := elem_map (f := Item.av) hx
      obtain ⟨⟨t1, t2, t3, t4, t5, t6, t7, t8, t9⟩, hd, tk, tl, tr⟩ := x
      simp only [Item.av] at he
      repeat refine AW.seq ?_
      refine AW.reg ?_
      have hF := True.intro
      repeat (first | refine wD1 ?_ | refine wD2 ?_ | refine wE1 ?_ | refine wE2 ?_ | (refine wE3 ?_; intro _) | (refine wE4 ?_; intro _) | refine wN ?_ | ((with_reducible show evIs _ (_ :: _) _ _); first | refine wQ ?_ | refine wF ?_ | refine wG ?_ | refine wT ?_ | refine wM ?_ | refine wS ?_ | refine wP ?_ | refine wJ ?_ | refine wX ?_ | refine wY ?_))
      clear hF
      repeat refine evDone ?_
      try (show AW _ _ _ _ _)
      repeat refine AW.seq ?_
      refine AW.draw ?_
      have hF := And.intro (hlt) (he)
      repeat (first | refine wD1 ?_ | refine wD2 ?_ | refine wE1 ?_ | refine wE2 ?_ | (refine wE3 ?_; intro _) | (refine wE4 ?_; intro _) | refine wN ?_ | ((with_reducible show evIs _ (_ :: _) _ _); first | refine wQ ?_ | refine wF ?_ | refine wG ?_ | refine wT ?_ | refine wM ?_ | refine wS ?_ | refine wP ?_ | refine wJ ?_ | refine wX ?_ | refine wY ?_))
      clear hF
      repeat refine evDone ?_
      try (show AW _ _ _ _ _)
      repeat refine AW.seq ?_
      refine AW.condF (by simp []) (by simp []) ?_
      refine AW.skip ?_
      show AW _ _ _ _ _
      refine AW.reg ?_
      have hw : IntKind.i64.wrap ((i : Int) + 1) = (i : Int) + 1 := i64_in _ ⟨by omega, by omega⟩
      have hF := hw
      repeat (first | refine wD1 ?_ | refine wD2 ?_ | refine wE1 ?_ | refine wE2 ?_ | (refine wE3 ?_; intro _) | (refine wE4 ?_; intro _) | refine wN ?_ | ((with_reducible show evIs _ (_ :: _) _ _); first | refine wQ ?_ | refine wF ?_ | refine wG ?_ | refine wT ?_ | refine wM ?_ | refine wS ?_ | refine wP ?_ | refine wJ ?_ | refine wX ?_ | refine wY ?_))
      clear hF
      repeat refine evDone ?_
      try (show AW _ _ _ _ _)
      refine ⟨i + 1, by omega, by omega, ?_⟩
      refine Fit.mk _ _ _ (by simp [hw, conv2, newEmp, convs_refl, convs, conv]) (by simp [hw, heapFit, newEmp, conv2s, conv2, convs_refl, convs, conv]) (by intro q hq; first | (simp at hq; done) | (simp at hq; omega) | (simp at hq; simp; omega))
    · have hlt2 : ¬ (i : Int) < xs.length := by omega
      have hF := And.intro (hlt) (hlt2)
      repeat (first | refine wD1 ?_ | refine wD2 ?_ | refine wE1 ?_ | refine wE2 ?_ | (refine wE3 ?_; intro _) | (refine wE4 ?_; intro _) | refine wN ?_ | ((with_reducible show evIs _ (_ :: _) _ _); first | refine wQ ?_ | refine wF ?_ | refine wG ?_ | refine wT ?_ | refine wM ?_ | refine wS ?_ | refine wP ?_ | refine wJ ?_ | refine wX ?_ | refine wY ?_))
      clear hF
      repeat refine evDone ?_
      try (show AW _ _ _ _ _)
      repeat refine AW.seq ?_
      refine AW.condF (by simp []) (by simp []) ?_
      refine AW.exit ?_
      show AW _ _ _ _ _
      repeat refine AW.seq ?_
      refine AW.reg ?_
      have hF := True.intro
      repeat (first | refine wD1 ?_ | refine wD2 ?_ | refine wE1 ?_ | refine wE2 ?_ | (refine wE3 ?_; intro _) | (refine wE4 ?_; intro _) | refine wN ?_ | ((with_reducible show evIs _ (_ :: _) _ _); first | refine wQ ?_ | refine wF ?_ | refine wG ?_ | refine wT ?_ | refine wM ?_ | refine wS ?_ | refine wP ?_ | refine wJ ?_ | refine wX ?_ | refine wY ?_))
      clear hF
      repeat refine evDone ?_
      try (show AW _ _ _ _ _)
      refine AW.ret (retI rfl ?_)
      simp [a32_res, resOk, resP, resV, ARes.op, R2s, R2, R1s, R1, closeOk, closeV]
theorem f12 (xs : List Item) (tok : Int) (hb : xs.length * 136 ≤ 140737488355328) : ACall Try.prog 12 [.agg [items xs, .int .i64 tok], .agg [items xs, .int .i64 tok]] (· = .bool true) := by
  have hcl : (xs.map Item.av).map clC = xs.map Item.av := by simp [Function.comp_def]
  refine a12_of (by simp) ?_
  repeat refine AW.seq ?_
  refine AW.reg ?_
  have hF := True.intro
  repeat (first | refine wD1 ?_ | refine wD2 ?_ | refine wE1 ?_ | refine wE2 ?_ | (refine wE3 ?_; intro _) | (refine wE4 ?_; intro _) | refine wN ?_ | ((with_reducible show evIs _ (_ :: _) _ _); first | refine wQ ?_ | refine wF ?_ | refine wG ?_ | refine wT ?_ | refine wM ?_ | refine wS ?_ | refine wP ?_ | refine wJ ?_ | refine wX ?_ | refine wY ?_))
  clear hF
  repeat refine evDone ?_
  try (show AW _ _ _ _ _)
  repeat refine AW.seq ?_
  refine AW.draw ?_
  have hF := True.intro
  repeat (first | refine wD1 ?_ | refine wD2 ?_ | refine wE1 ?_ | refine wE2 ?_ | (refine wE3 ?_; intro _) | (refine wE4 ?_; intro _) | refine wN ?_ | ((with_reducible show evIs _ (_ :: _) _ _); first | refine wQ ?_ | refine wF ?_ | refine wG ?_ | refine wT ?_ | refine wM ?_ | refine wS ?_ | refine wP ?_ | refine wJ ?_ | refine wX ?_ | refine wY ?_))
  clear hF
  repeat refine evDone ?_
  try (show AW _ _ _ _ _)
  have hF := hcl
  refine wC (hA := f11 xs tok hb) ?_
  clear hF
  have hF := True.intro
  repeat (first | refine wD1 ?_ | refine wD2 ?_ | refine wE1 ?_ | refine wE2 ?_ | (refine wE3 ?_; intro _) | (refine wE4 ?_; intro _) | refine wN ?_ | ((with_reducible show evIs _ (_ :: _) _ _); first | refine wQ ?_ | refine wF ?_ | refine wG ?_ | refine wT ?_ | refine wM ?_ | refine wS ?_ | refine wP ?_ | refine wJ ?_ | refine wX ?_ | refine wY ?_))
  clear hF
  repeat refine evDone ?_
  try (show AW _ _ _ _ _)
  have hF := True.intro
  refine wC (hA := f32 xs (by omega)) ?_
  clear hF
  have hF := True.intro
  repeat (first | refine wD1 ?_ | refine wD2 ?_ | refine wE1 ?_ | refine wE2 ?_ | (refine wE3 ?_; intro _) | (refine wE4 ?_; intro _) | refine wN ?_ | ((with_reducible show evIs _ (_ :: _) _ _); first | refine wQ ?_ | refine wF ?_ | refine wG ?_ | refine wT ?_ | refine wM ?_ | refine wS ?_ | refine wP ?_ | refine wJ ?_ | refine wX ?_ | refine wY ?_))
  clear hF
  repeat refine evDone ?_
  try (show AW _ _ _ _ _)
  refine AW.ret (retI rfl ?_)
  simp [a12_res, resOk, resP, resV, ARes.op, R2s, R2, R1s, R1, closeOk, closeV]
end Go.Proofs.Ytloccbmiojhabaa
