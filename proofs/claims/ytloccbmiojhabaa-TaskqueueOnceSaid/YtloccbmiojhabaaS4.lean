/- Contracts of chapter 40's functions, eighth part: Ack, Extend, Return. -/
import Derived.Test.YtloccbmiojhabaaS3

set_option linter.unusedSimpArgs false
set_option linter.unusedVariables false
set_option maxHeartbeats 4000000
namespace Go.Proofs.Ytloccbmiojhabaa
open Go Go.Amb Go.IntWalk

def heldK (xs : List Item) (t : Int) : Option Nat := if t < 1 then none else xs.findIdx? (tokIs t)
theorem held_cases (xs : List Item) (t : Int) : (heldAt xs t = -1 ∧ heldK xs t = none) ∨ ∃ k x, heldAt xs t = (k : Nat) ∧ heldK xs t = some k ∧ k < xs.length ∧ xs[k]? = some x := by
  unfold heldAt heldK idx
  by_cases h : t < 1
  · exact .inl (by simp [h])
  · simp only [if_neg h]
    cases h3 : xs.findIdx? (tokIs t) with
    | none => exact .inl ⟨rfl, rfl⟩
    | some k =>
      have hk : k < xs.length := (List.findIdx?_eq_some_iff_getElem.1 h3).1
      exact .inr ⟨k, xs[k], rfl, rfl, hk, List.getElem?_eq_getElem hk⟩
def ackR (xs : List Item) (tok t : Int) : AV :=
  match heldK xs t with
  | none => .tup [qz, .int .i64 24]
  | some k => .tup [qv (.own 13) (xs.take k ++ xs.drop (k + 1)) tok, .int .i64 0]
def longer (x : Item) (now ttl : Int) : Item := ⟨x.task, x.holder, x.token, IntKind.i64.wrap (now + ttl), x.tries⟩
def extR (xs : List Item) (tok t now ttl : Int) : AV :=
  if per now ttl = false then .tup [qz, .int .i64 2] else
  match heldK xs t with
  | none => .tup [qz, .int .i64 24]
  | some k => match xs[k]? with
    | none => .undef
    | some x => if x.holder = ⟨#[]⟩ ∨ x.til ≤ now then .tup [qz, .int .i64 24] else .tup [qv (.own 13) (xs.set k (longer x now ttl)) tok, .int .i64 0]
def let_ (x : Item) : Item := ⟨x.task, ⟨#[]⟩, 0, 0, x.tries⟩
def retR (xs : List Item) (tok t : Int) : AV :=
  match heldK xs t with
  | none => .tup [qz, .int .i64 24]
  | some k => match xs[k]? with
    | none => .undef
    | some x => .tup [qv (.own 13) (xs.set k (let_ x)) tok, .int .i64 0]

theorem f18 (xs : List Item) (tok t : Int) (hlen : xs.length ≤ 1001) : ACall Try.prog 18 [.agg [items xs, .int .i64 tok], .int .i64 t] (· = ackR xs tok t) := by
  have hu : ∀ x ∈ xs.map Item.av, (cellsOf x).length = 13 := by simp
  refine a18_of (by simp) ?_
  repeat refine AW.seq ?_
  refine AW.reg ?_
  have hF := True.intro
  repeat (first | refine wD1 ?_ | refine wD2 ?_ | refine wE1 ?_ | refine wE2 ?_ | (refine wE3 ?_; intro _) | (refine wE4 ?_; intro _) | refine wN ?_ | ((with_reducible show evIs _ (_ :: _) _ _); first | refine wQ ?_ | refine wF ?_ | refine wG ?_ | refine wT ?_ | refine wM ?_ | refine wS ?_ | refine wP ?_ | refine wJ ?_ | refine wX ?_ | refine wY ?_))
  clear hF
  repeat refine evDone ?_
  try (show AW _ _ _ _ _)
  repeat refine AW.seq ?_
  refine AW.reg ?_
  have hF := True.intro
  repeat (first | refine wD1 ?_ | refine wD2 ?_ | refine wE1 ?_ | refine wE2 ?_ | (refine wE3 ?_; intro _) | (refine wE4 ?_; intro _) | refine wN ?_ | ((with_reducible show evIs _ (_ :: _) _ _); first | refine wQ ?_ | refine wF ?_ | refine wG ?_ | refine wT ?_ | refine wM ?_ | refine wS ?_ | refine wP ?_ | refine wJ ?_ | refine wX ?_ | refine wY ?_))
  clear hF
  repeat refine evDone ?_
  try (show AW _ _ _ _ _)
  have hF := True.intro
  refine wC (hA := f39 xs tok t (by omega)) ?_
  clear hF
  have hF := True.intro
  repeat (first | refine wD1 ?_ | refine wD2 ?_ | refine wE1 ?_ | refine wE2 ?_ | (refine wE3 ?_; intro _) | (refine wE4 ?_; intro _) | refine wN ?_ | ((with_reducible show evIs _ (_ :: _) _ _); first | refine wQ ?_ | refine wF ?_ | refine wG ?_ | refine wT ?_ | refine wM ?_ | refine wS ?_ | refine wP ?_ | refine wJ ?_ | refine wX ?_ | refine wY ?_))
  clear hF
  repeat refine evDone ?_
  try (show AW _ _ _ _ _)
  rcases held_cases xs t with ⟨h3, h4⟩ | ⟨k, x, h3, h4, hk, hx⟩
  · repeat refine AW.seq ?_
    refine AW.reg ?_
    have hF := h3
    repeat (first | refine wD1 ?_ | refine wD2 ?_ | refine wE1 ?_ | refine wE2 ?_ | (refine wE3 ?_; intro _) | (refine wE4 ?_; intro _) | refine wN ?_ | ((with_reducible show evIs _ (_ :: _) _ _); first | refine wQ ?_ | refine wF ?_ | refine wG ?_ | refine wT ?_ | refine wM ?_ | refine wS ?_ | refine wP ?_ | refine wJ ?_ | refine wX ?_ | refine wY ?_))
    clear hF
    repeat refine evDone ?_
    try (show AW _ _ _ _ _)
    repeat refine AW.seq ?_
    refine AW.condT (by simp []) (by simp []) ?_
    repeat refine AW.seq ?_
    refine AW.reg ?_
    have hF := True.intro
    repeat (first | refine wD1 ?_ | refine wD2 ?_ | refine wE1 ?_ | refine wE2 ?_ | (refine wE3 ?_; intro _) | (refine wE4 ?_; intro _) | refine wN ?_ | ((with_reducible show evIs _ (_ :: _) _ _); first | refine wQ ?_ | refine wF ?_ | refine wG ?_ | refine wT ?_ | refine wM ?_ | refine wS ?_ | refine wP ?_ | refine wJ ?_ | refine wX ?_ | refine wY ?_))
    clear hF
    repeat refine evDone ?_
    try (show AW _ _ _ _ _)
    refine AW.ret (retI rfl ?_)
    simp [ackR, h4, qz, a18_res, resOk, resP, resV, ARes.op, R2s, R2, R1s, R1, closeOk, closeV]
  · have hk0 : ¬ (k : Int) < 0 := by omega
    repeat refine AW.seq ?_
    refine AW.reg ?_
    have hF := And.intro (h3) (hk0)
    repeat (first | refine wD1 ?_ | refine wD2 ?_ | refine wE1 ?_ | refine wE2 ?_ | (refine wE3 ?_; intro _) | (refine wE4 ?_; intro _) | refine wN ?_ | ((with_reducible show evIs _ (_ :: _) _ _); first | refine wQ ?_ | refine wF ?_ | refine wG ?_ | refine wT ?_ | refine wM ?_ | refine wS ?_ | refine wP ?_ | refine wJ ?_ | refine wX ?_ | refine wY ?_))
    clear hF
    repeat refine evDone ?_
    try (show AW _ _ _ _ _)
    repeat refine AW.seq ?_
    refine AW.condF (by simp []) (by simp []) ?_
    refine AW.skip ?_
    show AW _ _ _ _ _
    repeat refine AW.seq ?_
    refine AW.reg ?_
    have hF := True.intro
    repeat (first | refine wD1 ?_ | refine wD2 ?_ | refine wE1 ?_ | refine wE2 ?_ | (refine wE3 ?_; intro _) | (refine wE4 ?_; intro _) | refine wN ?_ | ((with_reducible show evIs _ (_ :: _) _ _); first | refine wQ ?_ | refine wF ?_ | refine wG ?_ | refine wT ?_ | refine wM ?_ | refine wS ?_ | refine wP ?_ | refine wJ ?_ | refine wX ?_ | refine wY ?_))
    clear hF
    repeat refine evDone ?_
    try (show AW _ _ _ _ _)
    have hF := True.intro
    refine wL (hA := f30b 1000 (xs.map Item.av) tok hu (by simp; omega) (by simp; omega)) ?_
    clear hF
    rintro _ _ _ ⟨rfl, rfl, rfl⟩
    have hF := True.intro
    repeat (first | refine wD1 ?_ | refine wD2 ?_ | refine wE1 ?_ | refine wE2 ?_ | (refine wE3 ?_; intro _) | (refine wE4 ?_; intro _) | refine wN ?_ | ((with_reducible show evIs _ (_ :: _) _ _); first | refine wQ ?_ | refine wF ?_ | refine wG ?_ | refine wT ?_ | refine wM ?_ | refine wS ?_ | refine wP ?_ | refine wJ ?_ | refine wX ?_ | refine wY ?_))
    clear hF
    repeat refine evDone ?_
    try (show AW _ _ _ _ _)
    repeat refine AW.seq ?_
    refine AW.reg ?_
    have hw : IntKind.i64.wrap ((k : Int) + 1) = (k : Int) + 1 := i64_in _ ⟨by omega, by omega⟩
    have hF := And.intro (h3) (hw)
    repeat (first | refine wD1 ?_ | refine wD2 ?_ | refine wE1 ?_ | refine wE2 ?_ | (refine wE3 ?_; intro _) | (refine wE4 ?_; intro _) | refine wN ?_ | ((with_reducible show evIs _ (_ :: _) _ _); first | refine wQ ?_ | refine wF ?_ | refine wG ?_ | refine wT ?_ | refine wM ?_ | refine wS ?_ | refine wP ?_ | refine wJ ?_ | refine wX ?_ | refine wY ?_))
    clear hF
    repeat refine evDone ?_
    try (show AW _ _ _ _ _)
    have h40 := f40 2000 1004 k (xs.map Item.av) (by omega) (by simpa using hk) (by simp; omega) hu (items_shr xs)
    simp only [List.length_map] at h40
    have hF := h3
    refine wL (hA := h40) ?_
    clear hF
    rintro _ _ _ ⟨rfl, rfl, rfl⟩
    have hAl : ((xs.map Item.av).take k ++ (xs.map Item.av).drop (k + 1) ++ [zItem]).length = xs.length := by simp; omega
    have hAt : ((xs.map Item.av).take k ++ (xs.map Item.av).drop (k + 1) ++ [zItem]).take (xs.length - 1) = (xs.map Item.av).take k ++ (xs.map Item.av).drop (k + 1) := by
      rw [List.take_append_of_le_length (by simp; omega), List.take_of_length_le (by simp; omega)]
    generalize (xs.map Item.av).take k ++ (xs.map Item.av).drop (k + 1) ++ [zItem] = A at hAl hAt ⊢
    have hF := True.intro
    repeat (first | refine wD1 ?_ | refine wD2 ?_ | refine wE1 ?_ | refine wE2 ?_ | (refine wE3 ?_; intro _) | (refine wE4 ?_; intro _) | refine wN ?_ | ((with_reducible show evIs _ (_ :: _) _ _); first | refine wQ ?_ | refine wF ?_ | refine wG ?_ | refine wT ?_ | refine wM ?_ | refine wS ?_ | refine wP ?_ | refine wJ ?_ | refine wX ?_ | refine wY ?_))
    clear hF
    repeat refine evDone ?_
    try (show AW _ _ _ _ _)
    repeat refine AW.seq ?_
    refine AW.reg ?_
    have hF := True.intro
    repeat (first | refine wD1 ?_ | refine wD2 ?_ | refine wE1 ?_ | refine wE2 ?_ | (refine wE3 ?_; intro _) | (refine wE4 ?_; intro _) | refine wN ?_ | ((with_reducible show evIs _ (_ :: _) _ _); first | refine wQ ?_ | refine wF ?_ | refine wG ?_ | refine wT ?_ | refine wM ?_ | refine wS ?_ | refine wP ?_ | refine wJ ?_ | refine wX ?_ | refine wY ?_))
    clear hF
    repeat refine evDone ?_
    try (show AW _ _ _ _ _)
    refine AW.ret (retI rfl ?_)
    simp [ackR, h4, qv, hAl, hAt, List.map_append, List.map_take, List.map_drop, a18_res, resOk, resP, resV, ARes.op, R2s, R2, R1s, R1, closeOk, closeV]

theorem f19 (xs : List Item) (tok t : Int) (hlen : xs.length ≤ 1001) : ACall Try.prog 19 [.agg [items xs, .int .i64 tok], .int .i64 t] (· = ackR xs tok t) := by
  refine a19_of (by simp) ?_
  repeat refine AW.seq ?_
  refine AW.reg ?_
  have hF := True.intro
  repeat (first | refine wD1 ?_ | refine wD2 ?_ | refine wE1 ?_ | refine wE2 ?_ | (refine wE3 ?_; intro _) | (refine wE4 ?_; intro _) | refine wN ?_ | ((with_reducible show evIs _ (_ :: _) _ _); first | refine wQ ?_ | refine wF ?_ | refine wG ?_ | refine wT ?_ | refine wM ?_ | refine wS ?_ | refine wP ?_ | refine wJ ?_ | refine wX ?_ | refine wY ?_))
  clear hF
  repeat refine evDone ?_
  try (show AW _ _ _ _ _)
  repeat refine AW.seq ?_
  refine AW.reg ?_
  have hF := True.intro
  repeat (first | refine wD1 ?_ | refine wD2 ?_ | refine wE1 ?_ | refine wE2 ?_ | (refine wE3 ?_; intro _) | (refine wE4 ?_; intro _) | refine wN ?_ | ((with_reducible show evIs _ (_ :: _) _ _); first | refine wQ ?_ | refine wF ?_ | refine wG ?_ | refine wT ?_ | refine wM ?_ | refine wS ?_ | refine wP ?_ | refine wJ ?_ | refine wX ?_ | refine wY ?_))
  clear hF
  repeat refine evDone ?_
  try (show AW _ _ _ _ _)
  have hF := True.intro
  refine wC (hA := f41 xs tok t hlen) ?_
  clear hF
  have hF := True.intro
  repeat (first | refine wD1 ?_ | refine wD2 ?_ | refine wE1 ?_ | refine wE2 ?_ | (refine wE3 ?_; intro _) | (refine wE4 ?_; intro _) | refine wN ?_ | ((with_reducible show evIs _ (_ :: _) _ _); first | refine wQ ?_ | refine wF ?_ | refine wG ?_ | refine wT ?_ | refine wM ?_ | refine wS ?_ | refine wP ?_ | refine wJ ?_ | refine wX ?_ | refine wY ?_))
  clear hF
  repeat refine evDone ?_
  try (show AW _ _ _ _ _)
  rcases held_cases xs t with ⟨h3, h4⟩ | ⟨k, x, h3, h4, hk, hx⟩
  · repeat refine AW.seq ?_
    refine AW.reg ?_
    have hF := h3
    repeat (first | refine wD1 ?_ | refine wD2 ?_ | refine wE1 ?_ | refine wE2 ?_ | (refine wE3 ?_; intro _) | (refine wE4 ?_; intro _) | refine wN ?_ | ((with_reducible show evIs _ (_ :: _) _ _); first | refine wQ ?_ | refine wF ?_ | refine wG ?_ | refine wT ?_ | refine wM ?_ | refine wS ?_ | refine wP ?_ | refine wJ ?_ | refine wX ?_ | refine wY ?_))
    clear hF
    repeat refine evDone ?_
    try (show AW _ _ _ _ _)
    repeat refine AW.seq ?_
    refine AW.condT (by simp []) (by simp []) ?_
    repeat refine AW.seq ?_
    refine AW.reg ?_
    have hF := True.intro
    repeat (first | refine wD1 ?_ | refine wD2 ?_ | refine wE1 ?_ | refine wE2 ?_ | (refine wE3 ?_; intro _) | (refine wE4 ?_; intro _) | refine wN ?_ | ((with_reducible show evIs _ (_ :: _) _ _); first | refine wQ ?_ | refine wF ?_ | refine wG ?_ | refine wT ?_ | refine wM ?_ | refine wS ?_ | refine wP ?_ | refine wJ ?_ | refine wX ?_ | refine wY ?_))
    clear hF
    repeat refine evDone ?_
    try (show AW _ _ _ _ _)
    refine AW.ret (retI rfl ?_)
    simp [ackR, h4, qz, a19_res, resOk, resP, resV, ARes.op, R2s, R2, R1s, R1, closeOk, closeV]
  · have hk0 : ¬ (k : Int) < 0 := by omega
    have hw : IntKind.i64.wrap ((k : Int) + 1) = (k : Int) + 1 := i64_in _ ⟨by omega, by omega⟩
    have hu1 : ∀ x ∈ (xs.map Item.av).take k, (cellsOf x).length = 13 := fun x hx => by
      obtain ⟨y, _, rfl⟩ := List.mem_map.1 (List.mem_of_mem_take hx); exact item_len y
    have hu2 : ∀ x ∈ (xs.map Item.av).drop (k + 1), (cellsOf x).length = 13 := fun x hx => by
      obtain ⟨y, _, rfl⟩ := List.mem_map.1 (List.mem_of_mem_drop hx); exact item_len y
    have hk1 : (k : Int) ≤ xs.length := by omega
    have hk2 : k ≤ xs.length := by omega
    have hk3 : (k : Int) + 1 ≤ xs.length := by omega
    have hk4 : (0 : Int) ≤ (k : Int) + 1 := by omega
    have hk5 : ((k : Int) + 1).toNat = k + 1 := by omega
    have hmin : min k xs.length = k := by omega
    have hb1 : k * 136 ≤ 140737488355328 := by omega
    have hb2 : k ≤ 9223372036854775807 := by omega
    have hb3 : (k + (xs.length - (k + 1))) * 136 ≤ 140737488355328 := by omega
    have hb4 : k + (xs.length - (k + 1)) ≤ 9223372036854775807 := by omega
    have ht : ((xs.map Item.av).drop (k + 1)).take (xs.length - (k + 1)) = (xs.map Item.av).drop (k + 1) := List.take_of_length_le (by simp)
    repeat refine AW.seq ?_
    refine AW.reg ?_
    have hF := And.intro (h3) (hk0)
    repeat (first | refine wD1 ?_ | refine wD2 ?_ | refine wE1 ?_ | refine wE2 ?_ | (refine wE3 ?_; intro _) | (refine wE4 ?_; intro _) | refine wN ?_ | ((with_reducible show evIs _ (_ :: _) _ _); first | refine wQ ?_ | refine wF ?_ | refine wG ?_ | refine wT ?_ | refine wM ?_ | refine wS ?_ | refine wP ?_ | refine wJ ?_ | refine wX ?_ | refine wY ?_))
    clear hF
    repeat refine evDone ?_
    try (show AW _ _ _ _ _)
    repeat refine AW.seq ?_
    refine AW.condF (by simp []) (by simp []) ?_
    refine AW.skip ?_
    show AW _ _ _ _ _
    refine AW.cut (st' := mkS [(2, .ptr 0 0 0), (4, .ptr 1 0 0), (6, .int .i64 k), (7, .ptr 21 0 0)] [(0, ⟨2, true, [.agg [items xs, .int .i64 tok]]⟩), (1, ⟨2, true, [.agg [.sl .ext [], .int .i64 0]]⟩), (19, ⟨13, false, (xs.map Item.av).take k⟩), (21, ⟨2, true, [.agg [.hdr 19 0 k, .int .i64 tok]]⟩)] 22) ?_ ?_
    · repeat refine AW.seq ?_
      refine AW.draw ?_
      have hF := And.intro (h3) (And.intro (hk1) (And.intro (hk2) (And.intro (hmin) (And.intro (hb1) (And.intro (hb2) (eq_true hu1))))))
      repeat (first | refine wD1 ?_ | refine wD2 ?_ | refine wE1 ?_ | refine wE2 ?_ | (refine wE3 ?_; intro _) | (refine wE4 ?_; intro _) | refine wN ?_ | ((with_reducible show evIs _ (_ :: _) _ _); first | refine wQ ?_ | refine wF ?_ | refine wG ?_ | refine wT ?_ | refine wM ?_ | refine wS ?_ | refine wP ?_ | refine wJ ?_ | refine wX ?_ | refine wY ?_))
      clear hF
      repeat refine evDone ?_
      try (show AW _ _ _ _ _)
      refine evTwo ?_ ?_
      · have hF := And.intro (h3) (And.intro (hk1) (And.intro (hk2) (And.intro (hmin) (And.intro (hb1) (And.intro (hb2) (eq_true hu1))))))
        repeat (first | refine wD1 ?_ | refine wD2 ?_ | refine wE1 ?_ | refine wE2 ?_ | (refine wE3 ?_; intro _) | (refine wE4 ?_; intro _) | refine wN ?_ | ((with_reducible show evIs _ (_ :: _) _ _); first | refine wQ ?_ | refine wF ?_ | refine wG ?_ | refine wT ?_ | refine wM ?_ | refine wS ?_ | refine wP ?_ | refine wJ ?_ | refine wX ?_ | refine wY ?_))
        clear hF
        repeat refine evDone ?_
        try (show AW _ _ _ _ _)
        refine ⟨rfl, ?_⟩
        refine Fit.mk _ _ _ (by simp [h3, hmin, conv2, newEmp, convs_refl, convs, conv]) (by simp [h3, hmin, heapFit, newEmp, conv2s, conv2, convs_refl, convs, conv]) (by intro q hq; first | (simp at hq; done) | (simp at hq; omega) | (simp at hq; simp; omega))
      · have hF := And.intro (h3) (And.intro (hk1) (And.intro (hk2) (And.intro (hmin) (And.intro (hb1) (And.intro (hb2) (eq_true hu1))))))
        repeat (first | refine wD1 ?_ | refine wD2 ?_ | refine wE1 ?_ | refine wE2 ?_ | (refine wE3 ?_; intro _) | (refine wE4 ?_; intro _) | refine wN ?_ | ((with_reducible show evIs _ (_ :: _) _ _); first | refine wQ ?_ | refine wF ?_ | refine wG ?_ | refine wT ?_ | refine wM ?_ | refine wS ?_ | refine wP ?_ | refine wJ ?_ | refine wX ?_ | refine wY ?_))
        clear hF
        repeat refine evDone ?_
        try (show AW _ _ _ _ _)
        refine ⟨rfl, ?_⟩
        refine Fit.mk _ _ _ (by simp [h3, hmin, conv2, newEmp, convs_refl, convs, conv]) (by simp [h3, hmin, heapFit, newEmp, conv2s, conv2, convs_refl, convs, conv]) (by intro q hq; first | (simp at hq; done) | (simp at hq; omega) | (simp at hq; simp; omega))
    repeat refine AW.seq ?_
    refine AW.draw ?_
    have hF := And.intro (hk2) (And.intro (hk3) (And.intro (hk4) (And.intro (hk5) (And.intro (hw) (And.intro (hmin) (And.intro (ht) (And.intro (hb3) (And.intro (hb4) (eq_true hu2)))))))))
    repeat (first | refine wD1 ?_ | refine wD2 ?_ | refine wE1 ?_ | refine wE2 ?_ | (refine wE3 ?_; intro _) | (refine wE4 ?_; intro _) | refine wN ?_ | ((with_reducible show evIs _ (_ :: _) _ _); first | refine wQ ?_ | refine wF ?_ | refine wG ?_ | refine wT ?_ | refine wM ?_ | refine wS ?_ | refine wP ?_ | refine wJ ?_ | refine wX ?_ | refine wY ?_))
    clear hF
    repeat refine evDone ?_
    try (show AW _ _ _ _ _)
    repeat refine AW.seq ?_
    refine AW.reg ?_
    have hF := True.intro
    repeat (first | refine wD1 ?_ | refine wD2 ?_ | refine wE1 ?_ | refine wE2 ?_ | (refine wE3 ?_; intro _) | (refine wE4 ?_; intro _) | refine wN ?_ | ((with_reducible show evIs _ (_ :: _) _ _); first | refine wQ ?_ | refine wF ?_ | refine wG ?_ | refine wT ?_ | refine wM ?_ | refine wS ?_ | refine wP ?_ | refine wJ ?_ | refine wX ?_ | refine wY ?_))
    clear hF
    repeat refine evDone ?_
    try (show AW _ _ _ _ _)
    have hA : ((xs.map Item.av).take k ++ (xs.map Item.av).drop (k + 1)).take (k + (xs.length - (k + 1))) = (xs.map Item.av).take k ++ (xs.map Item.av).drop (k + 1) := List.take_of_length_le (by simp; omega)
    refine AW.ret (retI rfl ?_)
    simp [ackR, h4, qv, hA, hmin, List.map_append, List.map_take, List.map_drop, a19_res, resOk, resP, resV, ARes.op, R2s, R2, R1s, R1, closeOk, closeV]

theorem f20 (xs : List Item) (tok t now ttl : Int) (hlen : xs.length ≤ 1001) : ACall Try.prog 20 [.agg [items xs, .int .i64 tok], .int .i64 t, .int .i64 now, .int .i64 ttl] (· = extR xs tok t now ttl) := by
  have hu : ∀ x ∈ xs.map Item.av, (cellsOf x).length = 13 := by simp
  refine a20_of (by simp) ?_
  repeat refine AW.seq ?_
  refine AW.reg ?_
  have hF := True.intro
  repeat (first | refine wD1 ?_ | refine wD2 ?_ | refine wE1 ?_ | refine wE2 ?_ | (refine wE3 ?_; intro _) | (refine wE4 ?_; intro _) | refine wN ?_ | ((with_reducible show evIs _ (_ :: _) _ _); first | refine wQ ?_ | refine wF ?_ | refine wG ?_ | refine wT ?_ | refine wM ?_ | refine wS ?_ | refine wP ?_ | refine wJ ?_ | refine wX ?_ | refine wY ?_))
  clear hF
  repeat refine evDone ?_
  try (show AW _ _ _ _ _)
  repeat refine AW.seq ?_
  refine AW.reg ?_
  have hF := True.intro
  repeat (first | refine wD1 ?_ | refine wD2 ?_ | refine wE1 ?_ | refine wE2 ?_ | (refine wE3 ?_; intro _) | (refine wE4 ?_; intro _) | refine wN ?_ | ((with_reducible show evIs _ (_ :: _) _ _); first | refine wQ ?_ | refine wF ?_ | refine wG ?_ | refine wT ?_ | refine wM ?_ | refine wS ?_ | refine wP ?_ | refine wJ ?_ | refine wX ?_ | refine wY ?_))
  clear hF
  repeat refine evDone ?_
  try (show AW _ _ _ _ _)
  have hF := True.intro
  refine wC (hA := f33 now ttl) ?_
  clear hF
  have hF := True.intro
  repeat (first | refine wD1 ?_ | refine wD2 ?_ | refine wE1 ?_ | refine wE2 ?_ | (refine wE3 ?_; intro _) | (refine wE4 ?_; intro _) | refine wN ?_ | ((with_reducible show evIs _ (_ :: _) _ _); first | refine wQ ?_ | refine wF ?_ | refine wG ?_ | refine wT ?_ | refine wM ?_ | refine wS ?_ | refine wP ?_ | refine wJ ?_ | refine wX ?_ | refine wY ?_))
  clear hF
  repeat refine evDone ?_
  try (show AW _ _ _ _ _)
  cases h2 : per now ttl
  · repeat refine AW.seq ?_
    refine AW.condT (by simp [h2]) (by simp [h2]) ?_
    repeat refine AW.seq ?_
    refine AW.reg ?_
    have hF := True.intro
    repeat (first | refine wD1 ?_ | refine wD2 ?_ | refine wE1 ?_ | refine wE2 ?_ | (refine wE3 ?_; intro _) | (refine wE4 ?_; intro _) | refine wN ?_ | ((with_reducible show evIs _ (_ :: _) _ _); first | refine wQ ?_ | refine wF ?_ | refine wG ?_ | refine wT ?_ | refine wM ?_ | refine wS ?_ | refine wP ?_ | refine wJ ?_ | refine wX ?_ | refine wY ?_))
    clear hF
    repeat refine evDone ?_
    try (show AW _ _ _ _ _)
    refine AW.ret (retI rfl ?_)
    simp [extR, h2, qz, a20_res, resOk, resP, resV, ARes.op, R2s, R2, R1s, R1, closeOk, closeV]
  · repeat refine AW.seq ?_
    refine AW.condF (by simp [h2]) (by simp [h2]) ?_
    refine AW.skip ?_
    show AW _ _ _ _ _
    repeat refine AW.seq ?_
    refine AW.reg ?_
    have hF := True.intro
    repeat (first | refine wD1 ?_ | refine wD2 ?_ | refine wE1 ?_ | refine wE2 ?_ | (refine wE3 ?_; intro _) | (refine wE4 ?_; intro _) | refine wN ?_ | ((with_reducible show evIs _ (_ :: _) _ _); first | refine wQ ?_ | refine wF ?_ | refine wG ?_ | refine wT ?_ | refine wM ?_ | refine wS ?_ | refine wP ?_ | refine wJ ?_ | refine wX ?_ | refine wY ?_))
    clear hF
    repeat refine evDone ?_
    try (show AW _ _ _ _ _)
    have hF := True.intro
    refine wC (hA := f39 xs tok t (by omega)) ?_
    clear hF
    have hF := True.intro
    repeat (first | refine wD1 ?_ | refine wD2 ?_ | refine wE1 ?_ | refine wE2 ?_ | (refine wE3 ?_; intro _) | (refine wE4 ?_; intro _) | refine wN ?_ | ((with_reducible show evIs _ (_ :: _) _ _); first | refine wQ ?_ | refine wF ?_ | refine wG ?_ | refine wT ?_ | refine wM ?_ | refine wS ?_ | refine wP ?_ | refine wJ ?_ | refine wX ?_ | refine wY ?_))
    clear hF
    repeat refine evDone ?_
    try (show AW _ _ _ _ _)
    rcases held_cases xs t with ⟨h3, h4⟩ | ⟨k, x, h3, h4, hk, hx⟩
    · repeat refine AW.seq ?_
      refine AW.reg ?_
      have hF := h3
      repeat (first | refine wD1 ?_ | refine wD2 ?_ | refine wE1 ?_ | refine wE2 ?_ | (refine wE3 ?_; intro _) | (refine wE4 ?_; intro _) | refine wN ?_ | ((with_reducible show evIs _ (_ :: _) _ _); first | refine wQ ?_ | refine wF ?_ | refine wG ?_ | refine wT ?_ | refine wM ?_ | refine wS ?_ | refine wP ?_ | refine wJ ?_ | refine wX ?_ | refine wY ?_))
      clear hF
      repeat refine evDone ?_
      try (show AW _ _ _ _ _)
      repeat refine AW.seq ?_
      refine AW.condT (by simp []) (by simp []) ?_
      repeat refine AW.seq ?_
      refine AW.reg ?_
      have hF := True.intro
      repeat (first | refine wD1 ?_ | refine wD2 ?_ | refine wE1 ?_ | refine wE2 ?_ | (refine wE3 ?_; intro _) | (refine wE4 ?_; intro _) | refine wN ?_ | ((with_reducible show evIs _ (_ :: _) _ _); first | refine wQ ?_ | refine wF ?_ | refine wG ?_ | refine wT ?_ | refine wM ?_ | refine wS ?_ | refine wP ?_ | refine wJ ?_ | refine wX ?_ | refine wY ?_))
      clear hF
      repeat refine evDone ?_
      try (show AW _ _ _ _ _)
      refine AW.ret (retI rfl ?_)
      simp [extR, h2, h4, qz, a20_res, resOk, resP, resV, ARes.op, R2s, R2, R1s, R1, closeOk, closeV]
    · have hk0 : ¬ (k : Int) < 0 := by omega
      have he := elem_map (f := Item.av) hx
      obtain ⟨⟨t1, t2, t3, t4, t5, t6, t7, t8, t9⟩, hd, tk, tl, tr⟩ := x
      simp only [Item.av] at he
      repeat refine AW.seq ?_
      refine AW.reg ?_
      by_cases h5 : hd = ⟨#[]⟩
      · have hF := And.intro (h3) (And.intro (hk0) (And.intro (hk) (And.intro (he) (h5))))
        repeat (first | refine wD1 ?_ | refine wD2 ?_ | refine wE1 ?_ | refine wE2 ?_ | (refine wE3 ?_; intro _) | (refine wE4 ?_; intro _) | refine wN ?_ | ((with_reducible show evIs _ (_ :: _) _ _); first | refine wQ ?_ | refine wF ?_ | refine wG ?_ | refine wT ?_ | refine wM ?_ | refine wS ?_ | refine wP ?_ | refine wJ ?_ | refine wX ?_ | refine wY ?_))
        clear hF
        repeat refine evDone ?_
        try (show AW _ _ _ _ _)
        repeat refine AW.seq ?_
        refine AW.condT (by simp []) (by simp []) ?_
        repeat refine AW.seq ?_
        refine AW.reg ?_
        have hF := True.intro
        repeat (first | refine wD1 ?_ | refine wD2 ?_ | refine wE1 ?_ | refine wE2 ?_ | (refine wE3 ?_; intro _) | (refine wE4 ?_; intro _) | refine wN ?_ | ((with_reducible show evIs _ (_ :: _) _ _); first | refine wQ ?_ | refine wF ?_ | refine wG ?_ | refine wT ?_ | refine wM ?_ | refine wS ?_ | refine wP ?_ | refine wJ ?_ | refine wX ?_ | refine wY ?_))
        clear hF
        repeat refine evDone ?_
        try (show AW _ _ _ _ _)
        refine AW.ret (retI rfl ?_)
        simp [extR, h2, h4, hx, h5, qz, a20_res, resOk, resP, resV, ARes.op, R2s, R2, R1s, R1, closeOk, closeV]
      · by_cases h6 : tl ≤ now
        · have hF := And.intro (h3) (And.intro (hk0) (And.intro (hk) (And.intro (he) (And.intro (h5) (h6)))))
          repeat (first | refine wD1 ?_ | refine wD2 ?_ | refine wE1 ?_ | refine wE2 ?_ | (refine wE3 ?_; intro _) | (refine wE4 ?_; intro _) | refine wN ?_ | ((with_reducible show evIs _ (_ :: _) _ _); first | refine wQ ?_ | refine wF ?_ | refine wG ?_ | refine wT ?_ | refine wM ?_ | refine wS ?_ | refine wP ?_ | refine wJ ?_ | refine wX ?_ | refine wY ?_))
          clear hF
          repeat refine evDone ?_
          try (show AW _ _ _ _ _)
          repeat refine AW.seq ?_
          refine AW.condT (by simp []) (by simp []) ?_
          repeat refine AW.seq ?_
          refine AW.reg ?_
          have hF := True.intro
          repeat (first | refine wD1 ?_ | refine wD2 ?_ | refine wE1 ?_ | refine wE2 ?_ | (refine wE3 ?_; intro _) | (refine wE4 ?_; intro _) | refine wN ?_ | ((with_reducible show evIs _ (_ :: _) _ _); first | refine wQ ?_ | refine wF ?_ | refine wG ?_ | refine wT ?_ | refine wM ?_ | refine wS ?_ | refine wP ?_ | refine wJ ?_ | refine wX ?_ | refine wY ?_))
          clear hF
          repeat refine evDone ?_
          try (show AW _ _ _ _ _)
          refine AW.ret (retI rfl ?_)
          simp [extR, h2, h4, hx, h5, h6, qz, a20_res, resOk, resP, resV, ARes.op, R2s, R2, R1s, R1, closeOk, closeV]
        · have hF := And.intro (h3) (And.intro (hk0) (And.intro (hk) (And.intro (he) (And.intro (h5) (h6)))))
          repeat (first | refine wD1 ?_ | refine wD2 ?_ | refine wE1 ?_ | refine wE2 ?_ | (refine wE3 ?_; intro _) | (refine wE4 ?_; intro _) | refine wN ?_ | ((with_reducible show evIs _ (_ :: _) _ _); first | refine wQ ?_ | refine wF ?_ | refine wG ?_ | refine wT ?_ | refine wM ?_ | refine wS ?_ | refine wP ?_ | refine wJ ?_ | refine wX ?_ | refine wY ?_))
          clear hF
          repeat refine evDone ?_
          try (show AW _ _ _ _ _)
          repeat refine AW.seq ?_
          refine AW.condF (by simp []) (by simp []) ?_
          refine AW.skip ?_
          show AW _ _ _ _ _
          repeat refine AW.seq ?_
          refine AW.reg ?_
          have hF := True.intro
          repeat (first | refine wD1 ?_ | refine wD2 ?_ | refine wE1 ?_ | refine wE2 ?_ | (refine wE3 ?_; intro _) | (refine wE4 ?_; intro _) | refine wN ?_ | ((with_reducible show evIs _ (_ :: _) _ _); first | refine wQ ?_ | refine wF ?_ | refine wG ?_ | refine wT ?_ | refine wM ?_ | refine wS ?_ | refine wP ?_ | refine wJ ?_ | refine wX ?_ | refine wY ?_))
          clear hF
          repeat refine evDone ?_
          try (show AW _ _ _ _ _)
          have hF := True.intro
          refine wL (hA := f30b 1000 (xs.map Item.av) tok hu (by simp; omega) (by simp; omega)) ?_
          clear hF
          rintro _ _ _ ⟨rfl, rfl, rfl⟩
          have hF := True.intro
          repeat (first | refine wD1 ?_ | refine wD2 ?_ | refine wE1 ?_ | refine wE2 ?_ | (refine wE3 ?_; intro _) | (refine wE4 ?_; intro _) | refine wN ?_ | ((with_reducible show evIs _ (_ :: _) _ _); first | refine wQ ?_ | refine wF ?_ | refine wG ?_ | refine wT ?_ | refine wM ?_ | refine wS ?_ | refine wP ?_ | refine wJ ?_ | refine wX ?_ | refine wY ?_))
          clear hF
          repeat refine evDone ?_
          try (show AW _ _ _ _ _)
          repeat refine AW.seq ?_
          refine AW.reg ?_
          have hF := And.intro (h3) (And.intro (hk) (he))
          repeat (first | refine wD1 ?_ | refine wD2 ?_ | refine wE1 ?_ | refine wE2 ?_ | (refine wE3 ?_; intro _) | (refine wE4 ?_; intro _) | refine wN ?_ | ((with_reducible show evIs _ (_ :: _) _ _); first | refine wQ ?_ | refine wF ?_ | refine wG ?_ | refine wT ?_ | refine wM ?_ | refine wS ?_ | refine wP ?_ | refine wJ ?_ | refine wX ?_ | refine wY ?_))
          clear hF
          repeat refine evDone ?_
          try (show AW _ _ _ _ _)
          repeat refine AW.seq ?_
          refine AW.reg ?_
          have hF := True.intro
          repeat (first | refine wD1 ?_ | refine wD2 ?_ | refine wE1 ?_ | refine wE2 ?_ | (refine wE3 ?_; intro _) | (refine wE4 ?_; intro _) | refine wN ?_ | ((with_reducible show evIs _ (_ :: _) _ _); first | refine wQ ?_ | refine wF ?_ | refine wG ?_ | refine wT ?_ | refine wM ?_ | refine wS ?_ | refine wP ?_ | refine wJ ?_ | refine wX ?_ | refine wY ?_))
          clear hF
          repeat refine evDone ?_
          try (show AW _ _ _ _ _)
          refine AW.ret (retI rfl ?_)
          simp [extR, h2, h4, hx, h5, h6, qv, longer, Item.av, take_set, a20_res, resOk, resP, resV, ARes.op, R2s, R2, R1s, R1, closeOk, closeV]

theorem f21 (xs : List Item) (tok t now ttl : Int) (hlen : xs.length ≤ 1001) : ACall Try.prog 21 [.agg [items xs, .int .i64 tok], .int .i64 t, .int .i64 now, .int .i64 ttl] (· = extR xs tok t now ttl) := by
  have hu : ∀ x ∈ xs.map Item.av, (cellsOf x).length = 13 := by simp
  refine a21_of (by simp) ?_
  repeat refine AW.seq ?_
  refine AW.reg ?_
  have hF := True.intro
  repeat (first | refine wD1 ?_ | refine wD2 ?_ | refine wE1 ?_ | refine wE2 ?_ | (refine wE3 ?_; intro _) | (refine wE4 ?_; intro _) | refine wN ?_ | ((with_reducible show evIs _ (_ :: _) _ _); first | refine wQ ?_ | refine wF ?_ | refine wG ?_ | refine wT ?_ | refine wM ?_ | refine wS ?_ | refine wP ?_ | refine wJ ?_ | refine wX ?_ | refine wY ?_))
  clear hF
  repeat refine evDone ?_
  try (show AW _ _ _ _ _)
  repeat refine AW.seq ?_
  refine AW.reg ?_
  have hF := True.intro
  repeat (first | refine wD1 ?_ | refine wD2 ?_ | refine wE1 ?_ | refine wE2 ?_ | (refine wE3 ?_; intro _) | (refine wE4 ?_; intro _) | refine wN ?_ | ((with_reducible show evIs _ (_ :: _) _ _); first | refine wQ ?_ | refine wF ?_ | refine wG ?_ | refine wT ?_ | refine wM ?_ | refine wS ?_ | refine wP ?_ | refine wJ ?_ | refine wX ?_ | refine wY ?_))
  clear hF
  repeat refine evDone ?_
  try (show AW _ _ _ _ _)
  have hF := True.intro
  refine wC (hA := f37 now ttl) ?_
  clear hF
  have hF := True.intro
  repeat (first | refine wD1 ?_ | refine wD2 ?_ | refine wE1 ?_ | refine wE2 ?_ | (refine wE3 ?_; intro _) | (refine wE4 ?_; intro _) | refine wN ?_ | ((with_reducible show evIs _ (_ :: _) _ _); first | refine wQ ?_ | refine wF ?_ | refine wG ?_ | refine wT ?_ | refine wM ?_ | refine wS ?_ | refine wP ?_ | refine wJ ?_ | refine wX ?_ | refine wY ?_))
  clear hF
  repeat refine evDone ?_
  try (show AW _ _ _ _ _)
  cases h2 : per now ttl
  · repeat refine AW.seq ?_
    refine AW.reg ?_
    have hF := h2
    repeat (first | refine wD1 ?_ | refine wD2 ?_ | refine wE1 ?_ | refine wE2 ?_ | (refine wE3 ?_; intro _) | (refine wE4 ?_; intro _) | refine wN ?_ | ((with_reducible show evIs _ (_ :: _) _ _); first | refine wQ ?_ | refine wF ?_ | refine wG ?_ | refine wT ?_ | refine wM ?_ | refine wS ?_ | refine wP ?_ | refine wJ ?_ | refine wX ?_ | refine wY ?_))
    clear hF
    repeat refine evDone ?_
    try (show AW _ _ _ _ _)
    repeat refine AW.seq ?_
    refine AW.condT (by simp []) (by simp []) ?_
    repeat refine AW.seq ?_
    refine AW.reg ?_
    have hF := h2
    repeat (first | refine wD1 ?_ | refine wD2 ?_ | refine wE1 ?_ | refine wE2 ?_ | (refine wE3 ?_; intro _) | (refine wE4 ?_; intro _) | refine wN ?_ | ((with_reducible show evIs _ (_ :: _) _ _); first | refine wQ ?_ | refine wF ?_ | refine wG ?_ | refine wT ?_ | refine wM ?_ | refine wS ?_ | refine wP ?_ | refine wJ ?_ | refine wX ?_ | refine wY ?_))
    clear hF
    repeat refine evDone ?_
    try (show AW _ _ _ _ _)
    refine AW.ret (retI rfl ?_)
    simp [extR, h2, qz, a21_res, resOk, resP, resV, ARes.op, R2s, R2, R1s, R1, closeOk, closeV]
  · repeat refine AW.seq ?_
    refine AW.reg ?_
    have hF := h2
    repeat (first | refine wD1 ?_ | refine wD2 ?_ | refine wE1 ?_ | refine wE2 ?_ | (refine wE3 ?_; intro _) | (refine wE4 ?_; intro _) | refine wN ?_ | ((with_reducible show evIs _ (_ :: _) _ _); first | refine wQ ?_ | refine wF ?_ | refine wG ?_ | refine wT ?_ | refine wM ?_ | refine wS ?_ | refine wP ?_ | refine wJ ?_ | refine wX ?_ | refine wY ?_))
    clear hF
    repeat refine evDone ?_
    try (show AW _ _ _ _ _)
    repeat refine AW.seq ?_
    refine AW.condF (by simp []) (by simp []) ?_
    refine AW.skip ?_
    show AW _ _ _ _ _
    repeat refine AW.seq ?_
    refine AW.reg ?_
    have hF := True.intro
    repeat (first | refine wD1 ?_ | refine wD2 ?_ | refine wE1 ?_ | refine wE2 ?_ | (refine wE3 ?_; intro _) | (refine wE4 ?_; intro _) | refine wN ?_ | ((with_reducible show evIs _ (_ :: _) _ _); first | refine wQ ?_ | refine wF ?_ | refine wG ?_ | refine wT ?_ | refine wM ?_ | refine wS ?_ | refine wP ?_ | refine wJ ?_ | refine wX ?_ | refine wY ?_))
    clear hF
    repeat refine evDone ?_
    try (show AW _ _ _ _ _)
    have hF := True.intro
    refine wC (hA := f41 xs tok t hlen) ?_
    clear hF
    have hF := True.intro
    repeat (first | refine wD1 ?_ | refine wD2 ?_ | refine wE1 ?_ | refine wE2 ?_ | (refine wE3 ?_; intro _) | (refine wE4 ?_; intro _) | refine wN ?_ | ((with_reducible show evIs _ (_ :: _) _ _); first | refine wQ ?_ | refine wF ?_ | refine wG ?_ | refine wT ?_ | refine wM ?_ | refine wS ?_ | refine wP ?_ | refine wJ ?_ | refine wX ?_ | refine wY ?_))
    clear hF
    repeat refine evDone ?_
    try (show AW _ _ _ _ _)
    rcases held_cases xs t with ⟨h3, h4⟩ | ⟨k, x, h3, h4, hk, hx⟩
    · repeat refine AW.seq ?_
      refine AW.reg ?_
      have hF := h3
      repeat (first | refine wD1 ?_ | refine wD2 ?_ | refine wE1 ?_ | refine wE2 ?_ | (refine wE3 ?_; intro _) | (refine wE4 ?_; intro _) | refine wN ?_ | ((with_reducible show evIs _ (_ :: _) _ _); first | refine wQ ?_ | refine wF ?_ | refine wG ?_ | refine wT ?_ | refine wM ?_ | refine wS ?_ | refine wP ?_ | refine wJ ?_ | refine wX ?_ | refine wY ?_))
      clear hF
      repeat refine evDone ?_
      try (show AW _ _ _ _ _)
      repeat refine AW.seq ?_
      refine AW.condT (by simp []) (by simp []) ?_
      repeat refine AW.seq ?_
      refine AW.reg ?_
      have hF := True.intro
      repeat (first | refine wD1 ?_ | refine wD2 ?_ | refine wE1 ?_ | refine wE2 ?_ | (refine wE3 ?_; intro _) | (refine wE4 ?_; intro _) | refine wN ?_ | ((with_reducible show evIs _ (_ :: _) _ _); first | refine wQ ?_ | refine wF ?_ | refine wG ?_ | refine wT ?_ | refine wM ?_ | refine wS ?_ | refine wP ?_ | refine wJ ?_ | refine wX ?_ | refine wY ?_))
      clear hF
      repeat refine evDone ?_
      try (show AW _ _ _ _ _)
      refine AW.ret (retI rfl ?_)
      simp [extR, h2, h4, qz, a21_res, resOk, resP, resV, ARes.op, R2s, R2, R1s, R1, closeOk, closeV]
    · have hk0 : ¬ (k : Int) < 0 := by omega
      have he := elem_map (f := Item.av) hx
      obtain ⟨⟨t1, t2, t3, t4, t5, t6, t7, t8, t9⟩, hd, tk, tl, tr⟩ := x
      simp only [Item.av] at he
      repeat refine AW.seq ?_
      refine AW.reg ?_
      by_cases h5 : hd = ⟨#[]⟩
      · have hF := And.intro (h3) (And.intro (hk0) (And.intro (hk) (And.intro (he) (h5))))
        repeat (first | refine wD1 ?_ | refine wD2 ?_ | refine wE1 ?_ | refine wE2 ?_ | (refine wE3 ?_; intro _) | (refine wE4 ?_; intro _) | refine wN ?_ | ((with_reducible show evIs _ (_ :: _) _ _); first | refine wQ ?_ | refine wF ?_ | refine wG ?_ | refine wT ?_ | refine wM ?_ | refine wS ?_ | refine wP ?_ | refine wJ ?_ | refine wX ?_ | refine wY ?_))
        clear hF
        repeat refine evDone ?_
        try (show AW _ _ _ _ _)
        repeat refine AW.seq ?_
        refine AW.condT (by simp []) (by simp []) ?_
        repeat refine AW.seq ?_
        refine AW.reg ?_
        have hF := True.intro
        repeat (first | refine wD1 ?_ | refine wD2 ?_ | refine wE1 ?_ | refine wE2 ?_ | (refine wE3 ?_; intro _) | (refine wE4 ?_; intro _) | refine wN ?_ | ((with_reducible show evIs _ (_ :: _) _ _); first | refine wQ ?_ | refine wF ?_ | refine wG ?_ | refine wT ?_ | refine wM ?_ | refine wS ?_ | refine wP ?_ | refine wJ ?_ | refine wX ?_ | refine wY ?_))
        clear hF
        repeat refine evDone ?_
        try (show AW _ _ _ _ _)
        refine AW.ret (retI rfl ?_)
        simp [extR, h2, h4, hx, h5, qz, a21_res, resOk, resP, resV, ARes.op, R2s, R2, R1s, R1, closeOk, closeV]
      · by_cases h6 : tl ≤ now
        · have hF := And.intro (h3) (And.intro (hk0) (And.intro (hk) (And.intro (he) (And.intro (h5) (h6)))))
          repeat (first | refine wD1 ?_ | refine wD2 ?_ | refine wE1 ?_ | refine wE2 ?_ | (refine wE3 ?_; intro _) | (refine wE4 ?_; intro _) | refine wN ?_ | ((with_reducible show evIs _ (_ :: _) _ _); first | refine wQ ?_ | refine wF ?_ | refine wG ?_ | refine wT ?_ | refine wM ?_ | refine wS ?_ | refine wP ?_ | refine wJ ?_ | refine wX ?_ | refine wY ?_))
          clear hF
          repeat refine evDone ?_
          try (show AW _ _ _ _ _)
          repeat refine AW.seq ?_
          refine AW.condT (by simp []) (by simp []) ?_
          repeat refine AW.seq ?_
          refine AW.reg ?_
          have hF := True.intro
          repeat (first | refine wD1 ?_ | refine wD2 ?_ | refine wE1 ?_ | refine wE2 ?_ | (refine wE3 ?_; intro _) | (refine wE4 ?_; intro _) | refine wN ?_ | ((with_reducible show evIs _ (_ :: _) _ _); first | refine wQ ?_ | refine wF ?_ | refine wG ?_ | refine wT ?_ | refine wM ?_ | refine wS ?_ | refine wP ?_ | refine wJ ?_ | refine wX ?_ | refine wY ?_))
          clear hF
          repeat refine evDone ?_
          try (show AW _ _ _ _ _)
          refine AW.ret (retI rfl ?_)
          simp [extR, h2, h4, hx, h5, h6, qz, a21_res, resOk, resP, resV, ARes.op, R2s, R2, R1s, R1, closeOk, closeV]
        · have hF := And.intro (h3) (And.intro (hk0) (And.intro (hk) (And.intro (he) (And.intro (h5) (h6)))))
          repeat (first | refine wD1 ?_ | refine wD2 ?_ | refine wE1 ?_ | refine wE2 ?_ | (refine wE3 ?_; intro _) | (refine wE4 ?_; intro _) | refine wN ?_ | ((with_reducible show evIs _ (_ :: _) _ _); first | refine wQ ?_ | refine wF ?_ | refine wG ?_ | refine wT ?_ | refine wM ?_ | refine wS ?_ | refine wP ?_ | refine wJ ?_ | refine wX ?_ | refine wY ?_))
          clear hF
          repeat refine evDone ?_
          try (show AW _ _ _ _ _)
          repeat refine AW.seq ?_
          refine AW.condF (by simp []) (by simp []) ?_
          refine AW.skip ?_
          show AW _ _ _ _ _
          repeat refine AW.seq ?_
          refine AW.reg ?_
          have hF := True.intro
          repeat (first | refine wD1 ?_ | refine wD2 ?_ | refine wE1 ?_ | refine wE2 ?_ | (refine wE3 ?_; intro _) | (refine wE4 ?_; intro _) | refine wN ?_ | ((with_reducible show evIs _ (_ :: _) _ _); first | refine wQ ?_ | refine wF ?_ | refine wG ?_ | refine wT ?_ | refine wM ?_ | refine wS ?_ | refine wP ?_ | refine wJ ?_ | refine wX ?_ | refine wY ?_))
          clear hF
          repeat refine evDone ?_
          try (show AW _ _ _ _ _)
          have hF := True.intro
          refine wL (hA := f31b 1000 xs tok (by omega)) ?_
          clear hF
          rintro _ _ _ ⟨rfl, rfl, rfl⟩
          have hF := True.intro
          repeat (first | refine wD1 ?_ | refine wD2 ?_ | refine wE1 ?_ | refine wE2 ?_ | (refine wE3 ?_; intro _) | (refine wE4 ?_; intro _) | refine wN ?_ | ((with_reducible show evIs _ (_ :: _) _ _); first | refine wQ ?_ | refine wF ?_ | refine wG ?_ | refine wT ?_ | refine wM ?_ | refine wS ?_ | refine wP ?_ | refine wJ ?_ | refine wX ?_ | refine wY ?_))
          clear hF
          repeat refine evDone ?_
          try (show AW _ _ _ _ _)
          repeat refine AW.seq ?_
          refine AW.reg ?_
          have hF := And.intro (h3) (And.intro (hk) (he))
          repeat (first | refine wD1 ?_ | refine wD2 ?_ | refine wE1 ?_ | refine wE2 ?_ | (refine wE3 ?_; intro _) | (refine wE4 ?_; intro _) | refine wN ?_ | ((with_reducible show evIs _ (_ :: _) _ _); first | refine wQ ?_ | refine wF ?_ | refine wG ?_ | refine wT ?_ | refine wM ?_ | refine wS ?_ | refine wP ?_ | refine wJ ?_ | refine wX ?_ | refine wY ?_))
          clear hF
          repeat refine evDone ?_
          try (show AW _ _ _ _ _)
          repeat refine AW.seq ?_
          refine AW.reg ?_
          have hF := True.intro
          repeat (first | refine wD1 ?_ | refine wD2 ?_ | refine wE1 ?_ | refine wE2 ?_ | (refine wE3 ?_; intro _) | (refine wE4 ?_; intro _) | refine wN ?_ | ((with_reducible show evIs _ (_ :: _) _ _); first | refine wQ ?_ | refine wF ?_ | refine wG ?_ | refine wT ?_ | refine wM ?_ | refine wS ?_ | refine wP ?_ | refine wJ ?_ | refine wX ?_ | refine wY ?_))
          clear hF
          repeat refine evDone ?_
          try (show AW _ _ _ _ _)
          refine AW.ret (retI rfl ?_)
          simp [extR, h2, h4, hx, h5, h6, qv, longer, Item.av, take_set, a21_res, resOk, resP, resV, ARes.op, R2s, R2, R1s, R1, closeOk, closeV]

theorem f22 (xs : List Item) (tok t : Int) (hlen : xs.length ≤ 1001) : ACall Try.prog 22 [.agg [items xs, .int .i64 tok], .int .i64 t] (· = retR xs tok t) := by
  have hu : ∀ x ∈ xs.map Item.av, (cellsOf x).length = 13 := by simp
  refine a22_of (by simp) ?_
  repeat refine AW.seq ?_
  refine AW.reg ?_
  have hF := True.intro
  repeat (first | refine wD1 ?_ | refine wD2 ?_ | refine wE1 ?_ | refine wE2 ?_ | (refine wE3 ?_; intro _) | (refine wE4 ?_; intro _) | refine wN ?_ | ((with_reducible show evIs _ (_ :: _) _ _); first | refine wQ ?_ | refine wF ?_ | refine wG ?_ | refine wT ?_ | refine wM ?_ | refine wS ?_ | refine wP ?_ | refine wJ ?_ | refine wX ?_ | refine wY ?_))
  clear hF
  repeat refine evDone ?_
  try (show AW _ _ _ _ _)
  repeat refine AW.seq ?_
  refine AW.reg ?_
  have hF := True.intro
  repeat (first | refine wD1 ?_ | refine wD2 ?_ | refine wE1 ?_ | refine wE2 ?_ | (refine wE3 ?_; intro _) | (refine wE4 ?_; intro _) | refine wN ?_ | ((with_reducible show evIs _ (_ :: _) _ _); first | refine wQ ?_ | refine wF ?_ | refine wG ?_ | refine wT ?_ | refine wM ?_ | refine wS ?_ | refine wP ?_ | refine wJ ?_ | refine wX ?_ | refine wY ?_))
  clear hF
  repeat refine evDone ?_
  try (show AW _ _ _ _ _)
  have hF := True.intro
  refine wC (hA := f39 xs tok t (by omega)) ?_
  clear hF
  have hF := True.intro
  repeat (first | refine wD1 ?_ | refine wD2 ?_ | refine wE1 ?_ | refine wE2 ?_ | (refine wE3 ?_; intro _) | (refine wE4 ?_; intro _) | refine wN ?_ | ((with_reducible show evIs _ (_ :: _) _ _); first | refine wQ ?_ | refine wF ?_ | refine wG ?_ | refine wT ?_ | refine wM ?_ | refine wS ?_ | refine wP ?_ | refine wJ ?_ | refine wX ?_ | refine wY ?_))
  clear hF
  repeat refine evDone ?_
  try (show AW _ _ _ _ _)
  rcases held_cases xs t with ⟨h3, h4⟩ | ⟨k, x, h3, h4, hk, hx⟩
  · repeat refine AW.seq ?_
    refine AW.reg ?_
    have hF := h3
    repeat (first | refine wD1 ?_ | refine wD2 ?_ | refine wE1 ?_ | refine wE2 ?_ | (refine wE3 ?_; intro _) | (refine wE4 ?_; intro _) | refine wN ?_ | ((with_reducible show evIs _ (_ :: _) _ _); first | refine wQ ?_ | refine wF ?_ | refine wG ?_ | refine wT ?_ | refine wM ?_ | refine wS ?_ | refine wP ?_ | refine wJ ?_ | refine wX ?_ | refine wY ?_))
    clear hF
    repeat refine evDone ?_
    try (show AW _ _ _ _ _)
    repeat refine AW.seq ?_
    refine AW.condT (by simp []) (by simp []) ?_
    repeat refine AW.seq ?_
    refine AW.reg ?_
    have hF := True.intro
    repeat (first | refine wD1 ?_ | refine wD2 ?_ | refine wE1 ?_ | refine wE2 ?_ | (refine wE3 ?_; intro _) | (refine wE4 ?_; intro _) | refine wN ?_ | ((with_reducible show evIs _ (_ :: _) _ _); first | refine wQ ?_ | refine wF ?_ | refine wG ?_ | refine wT ?_ | refine wM ?_ | refine wS ?_ | refine wP ?_ | refine wJ ?_ | refine wX ?_ | refine wY ?_))
    clear hF
    repeat refine evDone ?_
    try (show AW _ _ _ _ _)
    refine AW.ret (retI rfl ?_)
    simp [retR, h4, qz, a22_res, resOk, resP, resV, ARes.op, R2s, R2, R1s, R1, closeOk, closeV]
  · have hk0 : ¬ (k : Int) < 0 := by omega
    have he := elem_map (f := Item.av) hx
    obtain ⟨⟨t1, t2, t3, t4, t5, t6, t7, t8, t9⟩, hd, tk, tl, tr⟩ := x
    simp only [Item.av] at he
    repeat refine AW.seq ?_
    refine AW.reg ?_
    have hF := And.intro (h3) (hk0)
    repeat (first | refine wD1 ?_ | refine wD2 ?_ | refine wE1 ?_ | refine wE2 ?_ | (refine wE3 ?_; intro _) | (refine wE4 ?_; intro _) | refine wN ?_ | ((with_reducible show evIs _ (_ :: _) _ _); first | refine wQ ?_ | refine wF ?_ | refine wG ?_ | refine wT ?_ | refine wM ?_ | refine wS ?_ | refine wP ?_ | refine wJ ?_ | refine wX ?_ | refine wY ?_))
    clear hF
    repeat refine evDone ?_
    try (show AW _ _ _ _ _)
    repeat refine AW.seq ?_
    refine AW.condF (by simp []) (by simp []) ?_
    refine AW.skip ?_
    show AW _ _ _ _ _
    repeat refine AW.seq ?_
    refine AW.reg ?_
    have hF := True.intro
    repeat (first | refine wD1 ?_ | refine wD2 ?_ | refine wE1 ?_ | refine wE2 ?_ | (refine wE3 ?_; intro _) | (refine wE4 ?_; intro _) | refine wN ?_ | ((with_reducible show evIs _ (_ :: _) _ _); first | refine wQ ?_ | refine wF ?_ | refine wG ?_ | refine wT ?_ | refine wM ?_ | refine wS ?_ | refine wP ?_ | refine wJ ?_ | refine wX ?_ | refine wY ?_))
    clear hF
    repeat refine evDone ?_
    try (show AW _ _ _ _ _)
    have hF := True.intro
    refine wL (hA := f30b 1000 (xs.map Item.av) tok hu (by simp; omega) (by simp; omega)) ?_
    clear hF
    rintro _ _ _ ⟨rfl, rfl, rfl⟩
    have hF := True.intro
    repeat (first | refine wD1 ?_ | refine wD2 ?_ | refine wE1 ?_ | refine wE2 ?_ | (refine wE3 ?_; intro _) | (refine wE4 ?_; intro _) | refine wN ?_ | ((with_reducible show evIs _ (_ :: _) _ _); first | refine wQ ?_ | refine wF ?_ | refine wG ?_ | refine wT ?_ | refine wM ?_ | refine wS ?_ | refine wP ?_ | refine wJ ?_ | refine wX ?_ | refine wY ?_))
    clear hF
    repeat refine evDone ?_
    try (show AW _ _ _ _ _)
    repeat refine AW.seq ?_
    refine AW.reg ?_
    have hF := And.intro (h3) (And.intro (hk) (he))
    repeat (first | refine wD1 ?_ | refine wD2 ?_ | refine wE1 ?_ | refine wE2 ?_ | (refine wE3 ?_; intro _) | (refine wE4 ?_; intro _) | refine wN ?_ | ((with_reducible show evIs _ (_ :: _) _ _); first | refine wQ ?_ | refine wF ?_ | refine wG ?_ | refine wT ?_ | refine wM ?_ | refine wS ?_ | refine wP ?_ | refine wJ ?_ | refine wX ?_ | refine wY ?_))
    clear hF
    repeat refine evDone ?_
    try (show AW _ _ _ _ _)
    repeat refine AW.seq ?_
    refine AW.reg ?_
    have hF := And.intro (h3) (And.intro (hk) (he))
    repeat (first | refine wD1 ?_ | refine wD2 ?_ | refine wE1 ?_ | refine wE2 ?_ | (refine wE3 ?_; intro _) | (refine wE4 ?_; intro _) | refine wN ?_ | ((with_reducible show evIs _ (_ :: _) _ _); first | refine wQ ?_ | refine wF ?_ | refine wG ?_ | refine wT ?_ | refine wM ?_ | refine wS ?_ | refine wP ?_ | refine wJ ?_ | refine wX ?_ | refine wY ?_))
    clear hF
    repeat refine evDone ?_
    try (show AW _ _ _ _ _)
    repeat refine AW.seq ?_
    refine AW.reg ?_
    have hF := And.intro (h3) (And.intro (hk) (he))
    repeat (first | refine wD1 ?_ | refine wD2 ?_ | refine wE1 ?_ | refine wE2 ?_ | (refine wE3 ?_; intro _) | (refine wE4 ?_; intro _) | refine wN ?_ | ((with_reducible show evIs _ (_ :: _) _ _); first | refine wQ ?_ | refine wF ?_ | refine wG ?_ | refine wT ?_ | refine wM ?_ | refine wS ?_ | refine wP ?_ | refine wJ ?_ | refine wX ?_ | refine wY ?_))
    clear hF
    repeat refine evDone ?_
    try (show AW _ _ _ _ _)
    repeat refine AW.seq ?_
    refine AW.reg ?_
    have hF := And.intro (h3) (And.intro (hk) (he))
    repeat (first | refine wD1 ?_ | refine wD2 ?_ | refine wE1 ?_ | refine wE2 ?_ | (refine wE3 ?_; intro _) | (refine wE4 ?_; intro _) | refine wN ?_ | ((with_reducible show evIs _ (_ :: _) _ _); first | refine wQ ?_ | refine wF ?_ | refine wG ?_ | refine wT ?_ | refine wM ?_ | refine wS ?_ | refine wP ?_ | refine wJ ?_ | refine wX ?_ | refine wY ?_))
    clear hF
    repeat refine evDone ?_
    try (show AW _ _ _ _ _)
    repeat refine AW.seq ?_
    refine AW.reg ?_
    have hF := And.intro (h3) (And.intro (hk) (he))
    repeat (first | refine wD1 ?_ | refine wD2 ?_ | refine wE1 ?_ | refine wE2 ?_ | (refine wE3 ?_; intro _) | (refine wE4 ?_; intro _) | refine wN ?_ | ((with_reducible show evIs _ (_ :: _) _ _); first | refine wQ ?_ | refine wF ?_ | refine wG ?_ | refine wT ?_ | refine wM ?_ | refine wS ?_ | refine wP ?_ | refine wJ ?_ | refine wX ?_ | refine wY ?_))
    clear hF
    repeat refine evDone ?_
    try (show AW _ _ _ _ _)
    refine AW.ret (retI rfl ?_)
    simp [retR, h4, hx, qv, let_, Item.av, take_set, a22_res, resOk, resP, resV, ARes.op, R2s, R2, R1s, R1, closeOk, closeV]

theorem f23 (xs : List Item) (tok t : Int) (hlen : xs.length ≤ 1001) : ACall Try.prog 23 [.agg [items xs, .int .i64 tok], .int .i64 t] (· = retR xs tok t) := by
  have hu : ∀ x ∈ xs.map Item.av, (cellsOf x).length = 13 := by simp
  refine a23_of (by simp) ?_
  repeat refine AW.seq ?_
  refine AW.reg ?_
  have hF := True.intro
  repeat (first | refine wD1 ?_ | refine wD2 ?_ | refine wE1 ?_ | refine wE2 ?_ | (refine wE3 ?_; intro _) | (refine wE4 ?_; intro _) | refine wN ?_ | ((with_reducible show evIs _ (_ :: _) _ _); first | refine wQ ?_ | refine wF ?_ | refine wG ?_ | refine wT ?_ | refine wM ?_ | refine wS ?_ | refine wP ?_ | refine wJ ?_ | refine wX ?_ | refine wY ?_))
  clear hF
  repeat refine evDone ?_
  try (show AW _ _ _ _ _)
  repeat refine AW.seq ?_
  refine AW.reg ?_
  have hF := True.intro
  repeat (first | refine wD1 ?_ | refine wD2 ?_ | refine wE1 ?_ | refine wE2 ?_ | (refine wE3 ?_; intro _) | (refine wE4 ?_; intro _) | refine wN ?_ | ((with_reducible show evIs _ (_ :: _) _ _); first | refine wQ ?_ | refine wF ?_ | refine wG ?_ | refine wT ?_ | refine wM ?_ | refine wS ?_ | refine wP ?_ | refine wJ ?_ | refine wX ?_ | refine wY ?_))
  clear hF
  repeat refine evDone ?_
  try (show AW _ _ _ _ _)
  have hF := True.intro
  refine wC (hA := f41 xs tok t hlen) ?_
  clear hF
  have hF := True.intro
  repeat (first | refine wD1 ?_ | refine wD2 ?_ | refine wE1 ?_ | refine wE2 ?_ | (refine wE3 ?_; intro _) | (refine wE4 ?_; intro _) | refine wN ?_ | ((with_reducible show evIs _ (_ :: _) _ _); first | refine wQ ?_ | refine wF ?_ | refine wG ?_ | refine wT ?_ | refine wM ?_ | refine wS ?_ | refine wP ?_ | refine wJ ?_ | refine wX ?_ | refine wY ?_))
  clear hF
  repeat refine evDone ?_
  try (show AW _ _ _ _ _)
  rcases held_cases xs t with ⟨h3, h4⟩ | ⟨k, x, h3, h4, hk, hx⟩
  · repeat refine AW.seq ?_
    refine AW.reg ?_
    have hF := h3
    repeat (first | refine wD1 ?_ | refine wD2 ?_ | refine wE1 ?_ | refine wE2 ?_ | (refine wE3 ?_; intro _) | (refine wE4 ?_; intro _) | refine wN ?_ | ((with_reducible show evIs _ (_ :: _) _ _); first | refine wQ ?_ | refine wF ?_ | refine wG ?_ | refine wT ?_ | refine wM ?_ | refine wS ?_ | refine wP ?_ | refine wJ ?_ | refine wX ?_ | refine wY ?_))
    clear hF
    repeat refine evDone ?_
    try (show AW _ _ _ _ _)
    repeat refine AW.seq ?_
    refine AW.condT (by simp []) (by simp []) ?_
    repeat refine AW.seq ?_
    refine AW.reg ?_
    have hF := True.intro
    repeat (first | refine wD1 ?_ | refine wD2 ?_ | refine wE1 ?_ | refine wE2 ?_ | (refine wE3 ?_; intro _) | (refine wE4 ?_; intro _) | refine wN ?_ | ((with_reducible show evIs _ (_ :: _) _ _); first | refine wQ ?_ | refine wF ?_ | refine wG ?_ | refine wT ?_ | refine wM ?_ | refine wS ?_ | refine wP ?_ | refine wJ ?_ | refine wX ?_ | refine wY ?_))
    clear hF
    repeat refine evDone ?_
    try (show AW _ _ _ _ _)
    refine AW.ret (retI rfl ?_)
    simp [retR, h4, qz, a23_res, resOk, resP, resV, ARes.op, R2s, R2, R1s, R1, closeOk, closeV]
  · have hk0 : ¬ (k : Int) < 0 := by omega
    have he := elem_map (f := Item.av) hx
    obtain ⟨⟨t1, t2, t3, t4, t5, t6, t7, t8, t9⟩, hd, tk, tl, tr⟩ := x
    simp only [Item.av] at he
    repeat refine AW.seq ?_
    refine AW.reg ?_
    have hF := And.intro (h3) (hk0)
    repeat (first | refine wD1 ?_ | refine wD2 ?_ | refine wE1 ?_ | refine wE2 ?_ | (refine wE3 ?_; intro _) | (refine wE4 ?_; intro _) | refine wN ?_ | ((with_reducible show evIs _ (_ :: _) _ _); first | refine wQ ?_ | refine wF ?_ | refine wG ?_ | refine wT ?_ | refine wM ?_ | refine wS ?_ | refine wP ?_ | refine wJ ?_ | refine wX ?_ | refine wY ?_))
    clear hF
    repeat refine evDone ?_
    try (show AW _ _ _ _ _)
    repeat refine AW.seq ?_
    refine AW.condF (by simp []) (by simp []) ?_
    refine AW.skip ?_
    show AW _ _ _ _ _
    repeat refine AW.seq ?_
    refine AW.reg ?_
    have hF := True.intro
    repeat (first | refine wD1 ?_ | refine wD2 ?_ | refine wE1 ?_ | refine wE2 ?_ | (refine wE3 ?_; intro _) | (refine wE4 ?_; intro _) | refine wN ?_ | ((with_reducible show evIs _ (_ :: _) _ _); first | refine wQ ?_ | refine wF ?_ | refine wG ?_ | refine wT ?_ | refine wM ?_ | refine wS ?_ | refine wP ?_ | refine wJ ?_ | refine wX ?_ | refine wY ?_))
    clear hF
    repeat refine evDone ?_
    try (show AW _ _ _ _ _)
    have hF := True.intro
    refine wL (hA := f31b 1000 xs tok (by omega)) ?_
    clear hF
    rintro _ _ _ ⟨rfl, rfl, rfl⟩
    have hF := True.intro
    repeat (first | refine wD1 ?_ | refine wD2 ?_ | refine wE1 ?_ | refine wE2 ?_ | (refine wE3 ?_; intro _) | (refine wE4 ?_; intro _) | refine wN ?_ | ((with_reducible show evIs _ (_ :: _) _ _); first | refine wQ ?_ | refine wF ?_ | refine wG ?_ | refine wT ?_ | refine wM ?_ | refine wS ?_ | refine wP ?_ | refine wJ ?_ | refine wX ?_ | refine wY ?_))
    clear hF
    repeat refine evDone ?_
    try (show AW _ _ _ _ _)
    repeat refine AW.seq ?_
    refine AW.reg ?_
    have hF := And.intro (h3) (And.intro (hk) (he))
    repeat (first | refine wD1 ?_ | refine wD2 ?_ | refine wE1 ?_ | refine wE2 ?_ | (refine wE3 ?_; intro _) | (refine wE4 ?_; intro _) | refine wN ?_ | ((with_reducible show evIs _ (_ :: _) _ _); first | refine wQ ?_ | refine wF ?_ | refine wG ?_ | refine wT ?_ | refine wM ?_ | refine wS ?_ | refine wP ?_ | refine wJ ?_ | refine wX ?_ | refine wY ?_))
    clear hF
    repeat refine evDone ?_
    try (show AW _ _ _ _ _)
    repeat refine AW.seq ?_
    refine AW.reg ?_
    have hF := And.intro (h3) (And.intro (hk) (he))
    repeat (first | refine wD1 ?_ | refine wD2 ?_ | refine wE1 ?_ | refine wE2 ?_ | (refine wE3 ?_; intro _) | (refine wE4 ?_; intro _) | refine wN ?_ | ((with_reducible show evIs _ (_ :: _) _ _); first | refine wQ ?_ | refine wF ?_ | refine wG ?_ | refine wT ?_ | refine wM ?_ | refine wS ?_ | refine wP ?_ | refine wJ ?_ | refine wX ?_ | refine wY ?_))
    clear hF
    repeat refine evDone ?_
    try (show AW _ _ _ _ _)
    repeat refine AW.seq ?_
    refine AW.reg ?_
    have hF := And.intro (h3) (And.intro (hk) (he))
    repeat (first | refine wD1 ?_ | refine wD2 ?_ | refine wE1 ?_ | refine wE2 ?_ | (refine wE3 ?_; intro _) | (refine wE4 ?_; intro _) | refine wN ?_ | ((with_reducible show evIs _ (_ :: _) _ _); first | refine wQ ?_ | refine wF ?_ | refine wG ?_ | refine wT ?_ | refine wM ?_ | refine wS ?_ | refine wP ?_ | refine wJ ?_ | refine wX ?_ | refine wY ?_))
    clear hF
    repeat refine evDone ?_
    try (show AW _ _ _ _ _)
    repeat refine AW.seq ?_
    refine AW.reg ?_
    have hF := And.intro (h3) (And.intro (hk) (he))
    repeat (first | refine wD1 ?_ | refine wD2 ?_ | refine wE1 ?_ | refine wE2 ?_ | (refine wE3 ?_; intro _) | (refine wE4 ?_; intro _) | refine wN ?_ | ((with_reducible show evIs _ (_ :: _) _ _); first | refine wQ ?_ | refine wF ?_ | refine wG ?_ | refine wT ?_ | refine wM ?_ | refine wS ?_ | refine wP ?_ | refine wJ ?_ | refine wX ?_ | refine wY ?_))
    clear hF
    repeat refine evDone ?_
    try (show AW _ _ _ _ _)
    refine AW.ret (retI rfl ?_)
    simp [retR, h4, hx, qv, let_, Item.av, take_set, a23_res, resOk, resP, resV, ARes.op, R2s, R2, R1s, R1, closeOk, closeV]
end Go.Proofs.Ytloccbmiojhabaa

set_option linter.unusedSimpArgs false
set_option linter.unusedVariables false
set_option maxHeartbeats 4000000
namespace Go.Proofs.Ytloccbmiojhabaa
open Go Go.Amb Go.IntWalk

def wt (i : Int) : Task := ⟨i, 1, 0, 0, 0, 0, ⟨#[119]⟩, ⟨#[114, 49]⟩, ⟨#[]⟩⟩
def j1 : Item := ⟨wt 1, ⟨#[]⟩, 0, 0, 0⟩
def j2 : Item := ⟨wt 2, ⟨#[]⟩, 0, 0, 0⟩
def j1a : Item := ⟨wt 1, ⟨#[111, 110, 101]⟩, 1, 5, 1⟩
def j2a : Item := ⟨wt 2, ⟨#[116, 119, 111]⟩, 2, 6, 1⟩
def j1b : Item := ⟨wt 1, ⟨#[116, 119, 111]⟩, 3, 10, 2⟩
theorem g1 : ACall Try.prog 9 [.agg [.sl .fro [], .int .i64 0], .agg [.int .i64 1, .int .i64 1, .int .i64 0, .int .i64 0, .int .i64 0, .int .i64 0, .str ⟨#[119]⟩, .str ⟨#[114, 49]⟩, .str ⟨#[]⟩]] (· = .tup [.agg [.sl (.own 13) [.agg [.int .i64 1, .int .i64 1, .int .i64 0, .int .i64 0, .int .i64 0, .int .i64 0, .str ⟨#[119]⟩, .str ⟨#[114, 49]⟩, .str ⟨#[]⟩, .str ⟨#[]⟩, .int .i64 0, .int .i64 0, .int .i64 0]], .int .i64 0], .bool true, .int .i64 0]) := by
  have h := f9 [] 0 (wt 1) (by simp)
  have e1 : addQ .fro [] 0 (wt 1) = .agg [.sl (.own 13) [.agg [.int .i64 1, .int .i64 1, .int .i64 0, .int .i64 0, .int .i64 0, .int .i64 0, .str ⟨#[119]⟩, .str ⟨#[114, 49]⟩, .str ⟨#[]⟩, .str ⟨#[]⟩, .int .i64 0, .int .i64 0, .int .i64 0]], .int .i64 0] := by kernel_rfl
  have e2 : addB [] (wt 1) = true := by kernel_rfl
  have e3 : addE [] (wt 1) = 0 := by kernel_rfl
  rw [e1, e2, e3] at h
  exact h

theorem g2 : ACall Try.prog 9 [.agg [.sl .fro [.agg [.int .i64 1, .int .i64 1, .int .i64 0, .int .i64 0, .int .i64 0, .int .i64 0, .str ⟨#[119]⟩, .str ⟨#[114, 49]⟩, .str ⟨#[]⟩, .str ⟨#[]⟩, .int .i64 0, .int .i64 0, .int .i64 0]], .int .i64 0], .agg [.int .i64 2, .int .i64 1, .int .i64 0, .int .i64 0, .int .i64 0, .int .i64 0, .str ⟨#[119]⟩, .str ⟨#[114, 49]⟩, .str ⟨#[]⟩]] (· = .tup [.agg [.sl (.own 13) [.agg [.int .i64 1, .int .i64 1, .int .i64 0, .int .i64 0, .int .i64 0, .int .i64 0, .str ⟨#[119]⟩, .str ⟨#[114, 49]⟩, .str ⟨#[]⟩, .str ⟨#[]⟩, .int .i64 0, .int .i64 0, .int .i64 0], .agg [.int .i64 2, .int .i64 1, .int .i64 0, .int .i64 0, .int .i64 0, .int .i64 0, .str ⟨#[119]⟩, .str ⟨#[114, 49]⟩, .str ⟨#[]⟩, .str ⟨#[]⟩, .int .i64 0, .int .i64 0, .int .i64 0]], .int .i64 0], .bool true, .int .i64 0]) := by
  have h := f9 [j1] 0 (wt 2) (by simp)
  have e1 : addQ .fro [j1] 0 (wt 2) = .agg [.sl (.own 13) [.agg [.int .i64 1, .int .i64 1, .int .i64 0, .int .i64 0, .int .i64 0, .int .i64 0, .str ⟨#[119]⟩, .str ⟨#[114, 49]⟩, .str ⟨#[]⟩, .str ⟨#[]⟩, .int .i64 0, .int .i64 0, .int .i64 0], .agg [.int .i64 2, .int .i64 1, .int .i64 0, .int .i64 0, .int .i64 0, .int .i64 0, .str ⟨#[119]⟩, .str ⟨#[114, 49]⟩, .str ⟨#[]⟩, .str ⟨#[]⟩, .int .i64 0, .int .i64 0, .int .i64 0]], .int .i64 0] := by kernel_rfl
  have e2 : addB [j1] (wt 2) = true := by kernel_rfl
  have e3 : addE [j1] (wt 2) = 0 := by kernel_rfl
  rw [e1, e2, e3] at h
  exact h

theorem g3 : ACall Try.prog 9 [.agg [.sl .fro [.agg [.int .i64 1, .int .i64 1, .int .i64 0, .int .i64 0, .int .i64 0, .int .i64 0, .str ⟨#[119]⟩, .str ⟨#[114, 49]⟩, .str ⟨#[]⟩, .str ⟨#[]⟩, .int .i64 0, .int .i64 0, .int .i64 0], .agg [.int .i64 2, .int .i64 1, .int .i64 0, .int .i64 0, .int .i64 0, .int .i64 0, .str ⟨#[119]⟩, .str ⟨#[114, 49]⟩, .str ⟨#[]⟩, .str ⟨#[]⟩, .int .i64 0, .int .i64 0, .int .i64 0]], .int .i64 0], .agg [.int .i64 1, .int .i64 1, .int .i64 0, .int .i64 0, .int .i64 0, .int .i64 0, .str ⟨#[119]⟩, .str ⟨#[114, 49]⟩, .str ⟨#[]⟩]] (· = .tup [.agg [.sl .fro [.agg [.int .i64 1, .int .i64 1, .int .i64 0, .int .i64 0, .int .i64 0, .int .i64 0, .str ⟨#[119]⟩, .str ⟨#[114, 49]⟩, .str ⟨#[]⟩, .str ⟨#[]⟩, .int .i64 0, .int .i64 0, .int .i64 0], .agg [.int .i64 2, .int .i64 1, .int .i64 0, .int .i64 0, .int .i64 0, .int .i64 0, .str ⟨#[119]⟩, .str ⟨#[114, 49]⟩, .str ⟨#[]⟩, .str ⟨#[]⟩, .int .i64 0, .int .i64 0, .int .i64 0]], .int .i64 0], .bool false, .int .i64 0]) := by
  have h := f9 [j1, j2] 0 (wt 1) (by simp)
  have e1 : addQ .fro [j1, j2] 0 (wt 1) = .agg [.sl .fro [.agg [.int .i64 1, .int .i64 1, .int .i64 0, .int .i64 0, .int .i64 0, .int .i64 0, .str ⟨#[119]⟩, .str ⟨#[114, 49]⟩, .str ⟨#[]⟩, .str ⟨#[]⟩, .int .i64 0, .int .i64 0, .int .i64 0], .agg [.int .i64 2, .int .i64 1, .int .i64 0, .int .i64 0, .int .i64 0, .int .i64 0, .str ⟨#[119]⟩, .str ⟨#[114, 49]⟩, .str ⟨#[]⟩, .str ⟨#[]⟩, .int .i64 0, .int .i64 0, .int .i64 0]], .int .i64 0] := by kernel_rfl
  have e2 : addB [j1, j2] (wt 1) = false := by kernel_rfl
  have e3 : addE [j1, j2] (wt 1) = 0 := by kernel_rfl
  rw [e1, e2, e3] at h
  exact h

theorem g4 : ACall Try.prog 13 [.agg [.sl .fro [.agg [.int .i64 1, .int .i64 1, .int .i64 0, .int .i64 0, .int .i64 0, .int .i64 0, .str ⟨#[119]⟩, .str ⟨#[114, 49]⟩, .str ⟨#[]⟩, .str ⟨#[]⟩, .int .i64 0, .int .i64 0, .int .i64 0], .agg [.int .i64 2, .int .i64 1, .int .i64 0, .int .i64 0, .int .i64 0, .int .i64 0, .str ⟨#[119]⟩, .str ⟨#[114, 49]⟩, .str ⟨#[]⟩, .str ⟨#[]⟩, .int .i64 0, .int .i64 0, .int .i64 0]], .int .i64 0], .str ⟨#[111, 110, 101]⟩, .int .i64 0, .int .i64 5] (· = .tup [.agg [.sl (.own 13) [.agg [.int .i64 1, .int .i64 1, .int .i64 0, .int .i64 0, .int .i64 0, .int .i64 0, .str ⟨#[119]⟩, .str ⟨#[114, 49]⟩, .str ⟨#[]⟩, .str ⟨#[111, 110, 101]⟩, .int .i64 1, .int .i64 5, .int .i64 1], .agg [.int .i64 2, .int .i64 1, .int .i64 0, .int .i64 0, .int .i64 0, .int .i64 0, .str ⟨#[119]⟩, .str ⟨#[114, 49]⟩, .str ⟨#[]⟩, .str ⟨#[]⟩, .int .i64 0, .int .i64 0, .int .i64 0]], .int .i64 1], .agg [.int .i64 1, .int .i64 1, .int .i64 0, .int .i64 0, .int .i64 0, .int .i64 0, .str ⟨#[119]⟩, .str ⟨#[114, 49]⟩, .str ⟨#[]⟩, .str ⟨#[111, 110, 101]⟩, .int .i64 1, .int .i64 5, .int .i64 1], .bool true, .int .i64 0]) := by
  have h := f13 [j1, j2] 0 ⟨#[111, 110, 101]⟩ 0 5 (by simp)
  have e1 : pollR .fro [j1, j2] 0 ⟨#[111, 110, 101]⟩ 0 5 = .tup [.agg [.sl (.own 13) [.agg [.int .i64 1, .int .i64 1, .int .i64 0, .int .i64 0, .int .i64 0, .int .i64 0, .str ⟨#[119]⟩, .str ⟨#[114, 49]⟩, .str ⟨#[]⟩, .str ⟨#[111, 110, 101]⟩, .int .i64 1, .int .i64 5, .int .i64 1], .agg [.int .i64 2, .int .i64 1, .int .i64 0, .int .i64 0, .int .i64 0, .int .i64 0, .str ⟨#[119]⟩, .str ⟨#[114, 49]⟩, .str ⟨#[]⟩, .str ⟨#[]⟩, .int .i64 0, .int .i64 0, .int .i64 0]], .int .i64 1], .agg [.int .i64 1, .int .i64 1, .int .i64 0, .int .i64 0, .int .i64 0, .int .i64 0, .str ⟨#[119]⟩, .str ⟨#[114, 49]⟩, .str ⟨#[]⟩, .str ⟨#[111, 110, 101]⟩, .int .i64 1, .int .i64 5, .int .i64 1], .bool true, .int .i64 0] := by kernel_rfl
  rw [e1] at h
  exact h

theorem g5 : ACall Try.prog 13 [.agg [.sl .fro [.agg [.int .i64 1, .int .i64 1, .int .i64 0, .int .i64 0, .int .i64 0, .int .i64 0, .str ⟨#[119]⟩, .str ⟨#[114, 49]⟩, .str ⟨#[]⟩, .str ⟨#[111, 110, 101]⟩, .int .i64 1, .int .i64 5, .int .i64 1], .agg [.int .i64 2, .int .i64 1, .int .i64 0, .int .i64 0, .int .i64 0, .int .i64 0, .str ⟨#[119]⟩, .str ⟨#[114, 49]⟩, .str ⟨#[]⟩, .str ⟨#[]⟩, .int .i64 0, .int .i64 0, .int .i64 0]], .int .i64 1], .str ⟨#[116, 119, 111]⟩, .int .i64 1, .int .i64 5] (· = .tup [.agg [.sl (.own 13) [.agg [.int .i64 1, .int .i64 1, .int .i64 0, .int .i64 0, .int .i64 0, .int .i64 0, .str ⟨#[119]⟩, .str ⟨#[114, 49]⟩, .str ⟨#[]⟩, .str ⟨#[111, 110, 101]⟩, .int .i64 1, .int .i64 5, .int .i64 1], .agg [.int .i64 2, .int .i64 1, .int .i64 0, .int .i64 0, .int .i64 0, .int .i64 0, .str ⟨#[119]⟩, .str ⟨#[114, 49]⟩, .str ⟨#[]⟩, .str ⟨#[116, 119, 111]⟩, .int .i64 2, .int .i64 6, .int .i64 1]], .int .i64 2], .agg [.int .i64 2, .int .i64 1, .int .i64 0, .int .i64 0, .int .i64 0, .int .i64 0, .str ⟨#[119]⟩, .str ⟨#[114, 49]⟩, .str ⟨#[]⟩, .str ⟨#[116, 119, 111]⟩, .int .i64 2, .int .i64 6, .int .i64 1], .bool true, .int .i64 0]) := by
  have h := f13 [j1a, j2] 1 ⟨#[116, 119, 111]⟩ 1 5 (by simp)
  have e1 : pollR .fro [j1a, j2] 1 ⟨#[116, 119, 111]⟩ 1 5 = .tup [.agg [.sl (.own 13) [.agg [.int .i64 1, .int .i64 1, .int .i64 0, .int .i64 0, .int .i64 0, .int .i64 0, .str ⟨#[119]⟩, .str ⟨#[114, 49]⟩, .str ⟨#[]⟩, .str ⟨#[111, 110, 101]⟩, .int .i64 1, .int .i64 5, .int .i64 1], .agg [.int .i64 2, .int .i64 1, .int .i64 0, .int .i64 0, .int .i64 0, .int .i64 0, .str ⟨#[119]⟩, .str ⟨#[114, 49]⟩, .str ⟨#[]⟩, .str ⟨#[116, 119, 111]⟩, .int .i64 2, .int .i64 6, .int .i64 1]], .int .i64 2], .agg [.int .i64 2, .int .i64 1, .int .i64 0, .int .i64 0, .int .i64 0, .int .i64 0, .str ⟨#[119]⟩, .str ⟨#[114, 49]⟩, .str ⟨#[]⟩, .str ⟨#[116, 119, 111]⟩, .int .i64 2, .int .i64 6, .int .i64 1], .bool true, .int .i64 0] := by kernel_rfl
  rw [e1] at h
  exact h

theorem g6 : ACall Try.prog 13 [.agg [.sl .fro [.agg [.int .i64 1, .int .i64 1, .int .i64 0, .int .i64 0, .int .i64 0, .int .i64 0, .str ⟨#[119]⟩, .str ⟨#[114, 49]⟩, .str ⟨#[]⟩, .str ⟨#[111, 110, 101]⟩, .int .i64 1, .int .i64 5, .int .i64 1], .agg [.int .i64 2, .int .i64 1, .int .i64 0, .int .i64 0, .int .i64 0, .int .i64 0, .str ⟨#[119]⟩, .str ⟨#[114, 49]⟩, .str ⟨#[]⟩, .str ⟨#[116, 119, 111]⟩, .int .i64 2, .int .i64 6, .int .i64 1]], .int .i64 2], .str ⟨#[116, 119, 111]⟩, .int .i64 2, .int .i64 5] (· = .tup [.agg [.sl .fro [.agg [.int .i64 1, .int .i64 1, .int .i64 0, .int .i64 0, .int .i64 0, .int .i64 0, .str ⟨#[119]⟩, .str ⟨#[114, 49]⟩, .str ⟨#[]⟩, .str ⟨#[111, 110, 101]⟩, .int .i64 1, .int .i64 5, .int .i64 1], .agg [.int .i64 2, .int .i64 1, .int .i64 0, .int .i64 0, .int .i64 0, .int .i64 0, .str ⟨#[119]⟩, .str ⟨#[114, 49]⟩, .str ⟨#[]⟩, .str ⟨#[116, 119, 111]⟩, .int .i64 2, .int .i64 6, .int .i64 1]], .int .i64 2], .agg [.int .i64 0, .int .i64 0, .int .i64 0, .int .i64 0, .int .i64 0, .int .i64 0, .str ⟨#[]⟩, .str ⟨#[]⟩, .str ⟨#[]⟩, .str ⟨#[]⟩, .int .i64 0, .int .i64 0, .int .i64 0], .bool false, .int .i64 0]) := by
  have h := f13 [j1a, j2a] 2 ⟨#[116, 119, 111]⟩ 2 5 (by simp)
  have e1 : pollR .fro [j1a, j2a] 2 ⟨#[116, 119, 111]⟩ 2 5 = .tup [.agg [.sl .fro [.agg [.int .i64 1, .int .i64 1, .int .i64 0, .int .i64 0, .int .i64 0, .int .i64 0, .str ⟨#[119]⟩, .str ⟨#[114, 49]⟩, .str ⟨#[]⟩, .str ⟨#[111, 110, 101]⟩, .int .i64 1, .int .i64 5, .int .i64 1], .agg [.int .i64 2, .int .i64 1, .int .i64 0, .int .i64 0, .int .i64 0, .int .i64 0, .str ⟨#[119]⟩, .str ⟨#[114, 49]⟩, .str ⟨#[]⟩, .str ⟨#[116, 119, 111]⟩, .int .i64 2, .int .i64 6, .int .i64 1]], .int .i64 2], .agg [.int .i64 0, .int .i64 0, .int .i64 0, .int .i64 0, .int .i64 0, .int .i64 0, .str ⟨#[]⟩, .str ⟨#[]⟩, .str ⟨#[]⟩, .str ⟨#[]⟩, .int .i64 0, .int .i64 0, .int .i64 0], .bool false, .int .i64 0] := by kernel_rfl
  rw [e1] at h
  exact h

theorem g7 : ACall Try.prog 13 [.agg [.sl .fro [.agg [.int .i64 1, .int .i64 1, .int .i64 0, .int .i64 0, .int .i64 0, .int .i64 0, .str ⟨#[119]⟩, .str ⟨#[114, 49]⟩, .str ⟨#[]⟩, .str ⟨#[111, 110, 101]⟩, .int .i64 1, .int .i64 5, .int .i64 1], .agg [.int .i64 2, .int .i64 1, .int .i64 0, .int .i64 0, .int .i64 0, .int .i64 0, .str ⟨#[119]⟩, .str ⟨#[114, 49]⟩, .str ⟨#[]⟩, .str ⟨#[116, 119, 111]⟩, .int .i64 2, .int .i64 6, .int .i64 1]], .int .i64 2], .str ⟨#[116, 119, 111]⟩, .int .i64 5, .int .i64 5] (· = .tup [.agg [.sl (.own 13) [.agg [.int .i64 1, .int .i64 1, .int .i64 0, .int .i64 0, .int .i64 0, .int .i64 0, .str ⟨#[119]⟩, .str ⟨#[114, 49]⟩, .str ⟨#[]⟩, .str ⟨#[116, 119, 111]⟩, .int .i64 3, .int .i64 10, .int .i64 2], .agg [.int .i64 2, .int .i64 1, .int .i64 0, .int .i64 0, .int .i64 0, .int .i64 0, .str ⟨#[119]⟩, .str ⟨#[114, 49]⟩, .str ⟨#[]⟩, .str ⟨#[116, 119, 111]⟩, .int .i64 2, .int .i64 6, .int .i64 1]], .int .i64 3], .agg [.int .i64 1, .int .i64 1, .int .i64 0, .int .i64 0, .int .i64 0, .int .i64 0, .str ⟨#[119]⟩, .str ⟨#[114, 49]⟩, .str ⟨#[]⟩, .str ⟨#[116, 119, 111]⟩, .int .i64 3, .int .i64 10, .int .i64 2], .bool true, .int .i64 0]) := by
  have h := f13 [j1a, j2a] 2 ⟨#[116, 119, 111]⟩ 5 5 (by simp)
  have e1 : pollR .fro [j1a, j2a] 2 ⟨#[116, 119, 111]⟩ 5 5 = .tup [.agg [.sl (.own 13) [.agg [.int .i64 1, .int .i64 1, .int .i64 0, .int .i64 0, .int .i64 0, .int .i64 0, .str ⟨#[119]⟩, .str ⟨#[114, 49]⟩, .str ⟨#[]⟩, .str ⟨#[116, 119, 111]⟩, .int .i64 3, .int .i64 10, .int .i64 2], .agg [.int .i64 2, .int .i64 1, .int .i64 0, .int .i64 0, .int .i64 0, .int .i64 0, .str ⟨#[119]⟩, .str ⟨#[114, 49]⟩, .str ⟨#[]⟩, .str ⟨#[116, 119, 111]⟩, .int .i64 2, .int .i64 6, .int .i64 1]], .int .i64 3], .agg [.int .i64 1, .int .i64 1, .int .i64 0, .int .i64 0, .int .i64 0, .int .i64 0, .str ⟨#[119]⟩, .str ⟨#[114, 49]⟩, .str ⟨#[]⟩, .str ⟨#[116, 119, 111]⟩, .int .i64 3, .int .i64 10, .int .i64 2], .bool true, .int .i64 0] := by kernel_rfl
  rw [e1] at h
  exact h

theorem g8 : ACall Try.prog 18 [.agg [.sl .fro [.agg [.int .i64 1, .int .i64 1, .int .i64 0, .int .i64 0, .int .i64 0, .int .i64 0, .str ⟨#[119]⟩, .str ⟨#[114, 49]⟩, .str ⟨#[]⟩, .str ⟨#[116, 119, 111]⟩, .int .i64 3, .int .i64 10, .int .i64 2], .agg [.int .i64 2, .int .i64 1, .int .i64 0, .int .i64 0, .int .i64 0, .int .i64 0, .str ⟨#[119]⟩, .str ⟨#[114, 49]⟩, .str ⟨#[]⟩, .str ⟨#[116, 119, 111]⟩, .int .i64 2, .int .i64 6, .int .i64 1]], .int .i64 3], .int .i64 1] (· = .tup [.agg [.sl .fro [], .int .i64 0], .int .i64 24]) := by
  have h := f18 [j1b, j2a] 3 1 (by simp)
  have e1 : ackR [j1b, j2a] 3 1 = .tup [.agg [.sl .fro [], .int .i64 0], .int .i64 24] := by kernel_rfl
  rw [e1] at h
  exact h

theorem g9 : ACall Try.prog 18 [.agg [.sl .fro [.agg [.int .i64 1, .int .i64 1, .int .i64 0, .int .i64 0, .int .i64 0, .int .i64 0, .str ⟨#[119]⟩, .str ⟨#[114, 49]⟩, .str ⟨#[]⟩, .str ⟨#[116, 119, 111]⟩, .int .i64 3, .int .i64 10, .int .i64 2], .agg [.int .i64 2, .int .i64 1, .int .i64 0, .int .i64 0, .int .i64 0, .int .i64 0, .str ⟨#[119]⟩, .str ⟨#[114, 49]⟩, .str ⟨#[]⟩, .str ⟨#[116, 119, 111]⟩, .int .i64 2, .int .i64 6, .int .i64 1]], .int .i64 3], .int .i64 3] (· = .tup [.agg [.sl (.own 13) [.agg [.int .i64 2, .int .i64 1, .int .i64 0, .int .i64 0, .int .i64 0, .int .i64 0, .str ⟨#[119]⟩, .str ⟨#[114, 49]⟩, .str ⟨#[]⟩, .str ⟨#[116, 119, 111]⟩, .int .i64 2, .int .i64 6, .int .i64 1]], .int .i64 3], .int .i64 0]) := by
  have h := f18 [j1b, j2a] 3 3 (by simp)
  have e1 : ackR [j1b, j2a] 3 3 = .tup [.agg [.sl (.own 13) [.agg [.int .i64 2, .int .i64 1, .int .i64 0, .int .i64 0, .int .i64 0, .int .i64 0, .str ⟨#[119]⟩, .str ⟨#[114, 49]⟩, .str ⟨#[]⟩, .str ⟨#[116, 119, 111]⟩, .int .i64 2, .int .i64 6, .int .i64 1]], .int .i64 3], .int .i64 0] := by kernel_rfl
  rw [e1] at h
  exact h

theorem works : ACall Try.prog 8 [] (· = .bool true) := by
  have hw0 : IntKind.i64.wrap 0 = 0 := by kernel_rfl
  refine a8_of (by simp) ?_
  repeat refine AW.seq ?_
  refine AW.reg ?_
  have hF := True.intro
  repeat (first | refine wD1 ?_ | refine wD2 ?_ | refine wE1 ?_ | refine wE2 ?_ | (refine wE3 ?_; intro _) | (refine wE4 ?_; intro _) | refine wN ?_ | ((with_reducible show evIs _ (_ :: _) _ _); first | refine wQ ?_ | refine wF ?_ | refine wG ?_ | refine wT ?_ | refine wM ?_ | refine wS ?_ | refine wP ?_ | refine wJ ?_ | refine wX ?_ | refine wY ?_))
  clear hF
  repeat refine evDone ?_
  try (show AW _ _ _ _ _)
  refine AW.cut (st' := mkS [(1, .ptr 8 0 0), (2, .bool true), (3, .int .i64 0)] [(8, ⟨2, true, [.agg [.sl .fro [.agg [.int .i64 1, .int .i64 1, .int .i64 0, .int .i64 0, .int .i64 0, .int .i64 0, .str ⟨#[119]⟩, .str ⟨#[114, 49]⟩, .str ⟨#[]⟩, .str ⟨#[]⟩, .int .i64 0, .int .i64 0, .int .i64 0]], .int .i64 0]]⟩)] 20) ?_ ?_
  · refine AW.reg ?_
    have hF := hw0
    repeat (first | refine wD1 ?_ | refine wD2 ?_ | refine wE1 ?_ | refine wE2 ?_ | (refine wE3 ?_; intro _) | (refine wE4 ?_; intro _) | refine wN ?_ | ((with_reducible show evIs _ (_ :: _) _ _); first | refine wQ ?_ | refine wF ?_ | refine wG ?_ | refine wT ?_ | refine wM ?_ | refine wS ?_ | refine wP ?_ | refine wJ ?_ | refine wX ?_ | refine wY ?_))
    clear hF
    repeat refine evDone ?_
    try (show AW _ _ _ _ _)
    have hF := True.intro
    refine wC (hA := f28 1 0) ?_
    clear hF
    have hF := hw0
    repeat (first | refine wD1 ?_ | refine wD2 ?_ | refine wE1 ?_ | refine wE2 ?_ | (refine wE3 ?_; intro _) | (refine wE4 ?_; intro _) | refine wN ?_ | ((with_reducible show evIs _ (_ :: _) _ _); first | refine wQ ?_ | refine wF ?_ | refine wG ?_ | refine wT ?_ | refine wM ?_ | refine wS ?_ | refine wP ?_ | refine wJ ?_ | refine wX ?_ | refine wY ?_))
    clear hF
    repeat refine evDone ?_
    try (show AW _ _ _ _ _)
    have hF := True.intro
    refine wC (hA := g1) ?_
    clear hF
    have hF := hw0
    repeat (first | refine wD1 ?_ | refine wD2 ?_ | refine wE1 ?_ | refine wE2 ?_ | (refine wE3 ?_; intro _) | (refine wE4 ?_; intro _) | refine wN ?_ | ((with_reducible show evIs _ (_ :: _) _ _); first | refine wQ ?_ | refine wF ?_ | refine wG ?_ | refine wT ?_ | refine wM ?_ | refine wS ?_ | refine wP ?_ | refine wJ ?_ | refine wX ?_ | refine wY ?_))
    clear hF
    repeat refine evDone ?_
    try (show AW _ _ _ _ _)
    refine ⟨rfl, ?_⟩
    refine Fit.mk _ _ _ (by simp [conv2, newEmp, convs_refl, convs, conv]) (by simp [heapFit, newEmp, conv2s, conv2, convs_refl, convs, conv]) (by intro q hq; first | (simp at hq; done) | (simp at hq; omega) | (simp at hq; simp; omega))
  refine AW.cut (st' := mkS [(1, .ptr 8 0 0), (2, .bool true), (3, .int .i64 0), (4, .bool true), (5, .int .i64 0)] [(8, ⟨2, true, [.agg [.sl .fro [.agg [.int .i64 1, .int .i64 1, .int .i64 0, .int .i64 0, .int .i64 0, .int .i64 0, .str ⟨#[119]⟩, .str ⟨#[114, 49]⟩, .str ⟨#[]⟩, .str ⟨#[]⟩, .int .i64 0, .int .i64 0, .int .i64 0], .agg [.int .i64 2, .int .i64 1, .int .i64 0, .int .i64 0, .int .i64 0, .int .i64 0, .str ⟨#[119]⟩, .str ⟨#[114, 49]⟩, .str ⟨#[]⟩, .str ⟨#[]⟩, .int .i64 0, .int .i64 0, .int .i64 0]], .int .i64 0]]⟩)] 100) ?_ ?_
  · refine AW.draw ?_
    have hF := hw0
    repeat (first | refine wD1 ?_ | refine wD2 ?_ | refine wE1 ?_ | refine wE2 ?_ | (refine wE3 ?_; intro _) | (refine wE4 ?_; intro _) | refine wN ?_ | ((with_reducible show evIs _ (_ :: _) _ _); first | refine wQ ?_ | refine wF ?_ | refine wG ?_ | refine wT ?_ | refine wM ?_ | refine wS ?_ | refine wP ?_ | refine wJ ?_ | refine wX ?_ | refine wY ?_))
    clear hF
    repeat refine evDone ?_
    try (show AW _ _ _ _ _)
    have hF := True.intro
    refine wC (hA := f28 2 0) ?_
    clear hF
    have hF := hw0
    repeat (first | refine wD1 ?_ | refine wD2 ?_ | refine wE1 ?_ | refine wE2 ?_ | (refine wE3 ?_; intro _) | (refine wE4 ?_; intro _) | refine wN ?_ | ((with_reducible show evIs _ (_ :: _) _ _); first | refine wQ ?_ | refine wF ?_ | refine wG ?_ | refine wT ?_ | refine wM ?_ | refine wS ?_ | refine wP ?_ | refine wJ ?_ | refine wX ?_ | refine wY ?_))
    clear hF
    repeat refine evDone ?_
    try (show AW _ _ _ _ _)
    have hF := True.intro
    refine wC (hA := g2) ?_
    clear hF
    have hF := hw0
    repeat (first | refine wD1 ?_ | refine wD2 ?_ | refine wE1 ?_ | refine wE2 ?_ | (refine wE3 ?_; intro _) | (refine wE4 ?_; intro _) | refine wN ?_ | ((with_reducible show evIs _ (_ :: _) _ _); first | refine wQ ?_ | refine wF ?_ | refine wG ?_ | refine wT ?_ | refine wM ?_ | refine wS ?_ | refine wP ?_ | refine wJ ?_ | refine wX ?_ | refine wY ?_))
    clear hF
    repeat refine evDone ?_
    try (show AW _ _ _ _ _)
    refine ⟨rfl, ?_⟩
    refine Fit.mk _ _ _ (by simp [conv2, newEmp, convs_refl, convs, conv]) (by simp [heapFit, newEmp, conv2s, conv2, convs_refl, convs, conv]) (by intro q hq; first | (simp at hq; done) | (simp at hq; omega) | (simp at hq; simp; omega))
  refine AW.cut (st' := mkS [(1, .ptr 8 0 0), (2, .bool true), (3, .int .i64 0), (4, .bool true), (5, .int .i64 0), (7, .bool false)] [(8, ⟨2, true, [.agg [.sl .fro [.agg [.int .i64 1, .int .i64 1, .int .i64 0, .int .i64 0, .int .i64 0, .int .i64 0, .str ⟨#[119]⟩, .str ⟨#[114, 49]⟩, .str ⟨#[]⟩, .str ⟨#[]⟩, .int .i64 0, .int .i64 0, .int .i64 0], .agg [.int .i64 2, .int .i64 1, .int .i64 0, .int .i64 0, .int .i64 0, .int .i64 0, .str ⟨#[119]⟩, .str ⟨#[114, 49]⟩, .str ⟨#[]⟩, .str ⟨#[]⟩, .int .i64 0, .int .i64 0, .int .i64 0]], .int .i64 0]]⟩)] 200) ?_ ?_
  · refine AW.draw ?_
    have hF := hw0
    repeat (first | refine wD1 ?_ | refine wD2 ?_ | refine wE1 ?_ | refine wE2 ?_ | (refine wE3 ?_; intro _) | (refine wE4 ?_; intro _) | refine wN ?_ | ((with_reducible show evIs _ (_ :: _) _ _); first | refine wQ ?_ | refine wF ?_ | refine wG ?_ | refine wT ?_ | refine wM ?_ | refine wS ?_ | refine wP ?_ | refine wJ ?_ | refine wX ?_ | refine wY ?_))
    clear hF
    repeat refine evDone ?_
    try (show AW _ _ _ _ _)
    refine evTwo ?_ ?_
    · have hF := hw0
      repeat (first | refine wD1 ?_ | refine wD2 ?_ | refine wE1 ?_ | refine wE2 ?_ | (refine wE3 ?_; intro _) | (refine wE4 ?_; intro _) | refine wN ?_ | ((with_reducible show evIs _ (_ :: _) _ _); first | refine wQ ?_ | refine wF ?_ | refine wG ?_ | refine wT ?_ | refine wM ?_ | refine wS ?_ | refine wP ?_ | refine wJ ?_ | refine wX ?_ | refine wY ?_))
      clear hF
      repeat refine evDone ?_
      try (show AW _ _ _ _ _)
      have hF := True.intro
      refine wC (hA := f28 1 0) ?_
      clear hF
      have hF := hw0
      repeat (first | refine wD1 ?_ | refine wD2 ?_ | refine wE1 ?_ | refine wE2 ?_ | (refine wE3 ?_; intro _) | (refine wE4 ?_; intro _) | refine wN ?_ | ((with_reducible show evIs _ (_ :: _) _ _); first | refine wQ ?_ | refine wF ?_ | refine wG ?_ | refine wT ?_ | refine wM ?_ | refine wS ?_ | refine wP ?_ | refine wJ ?_ | refine wX ?_ | refine wY ?_))
      clear hF
      repeat refine evDone ?_
      try (show AW _ _ _ _ _)
      refine evTwo ?_ ?_
      · have hF := hw0
        repeat (first | refine wD1 ?_ | refine wD2 ?_ | refine wE1 ?_ | refine wE2 ?_ | (refine wE3 ?_; intro _) | (refine wE4 ?_; intro _) | refine wN ?_ | ((with_reducible show evIs _ (_ :: _) _ _); first | refine wQ ?_ | refine wF ?_ | refine wG ?_ | refine wT ?_ | refine wM ?_ | refine wS ?_ | refine wP ?_ | refine wJ ?_ | refine wX ?_ | refine wY ?_))
        clear hF
        repeat refine evDone ?_
        try (show AW _ _ _ _ _)
        have hF := True.intro
        refine wC (hA := g3) ?_
        clear hF
        have hF := hw0
        repeat (first | refine wD1 ?_ | refine wD2 ?_ | refine wE1 ?_ | refine wE2 ?_ | (refine wE3 ?_; intro _) | (refine wE4 ?_; intro _) | refine wN ?_ | ((with_reducible show evIs _ (_ :: _) _ _); first | refine wQ ?_ | refine wF ?_ | refine wG ?_ | refine wT ?_ | refine wM ?_ | refine wS ?_ | refine wP ?_ | refine wJ ?_ | refine wX ?_ | refine wY ?_))
        clear hF
        repeat refine evDone ?_
        try (show AW _ _ _ _ _)
        refine ⟨rfl, ?_⟩
        refine Fit.mk _ _ _ (by simp [conv2, newEmp, convs_refl, convs, conv]) (by simp [heapFit, newEmp, conv2s, conv2, convs_refl, convs, conv]) (by intro q hq; first | (simp at hq; done) | (simp at hq; omega) | (simp at hq; simp; omega))
      · have hF := hw0
        repeat (first | refine wD1 ?_ | refine wD2 ?_ | refine wE1 ?_ | refine wE2 ?_ | (refine wE3 ?_; intro _) | (refine wE4 ?_; intro _) | refine wN ?_ | ((with_reducible show evIs _ (_ :: _) _ _); first | refine wQ ?_ | refine wF ?_ | refine wG ?_ | refine wT ?_ | refine wM ?_ | refine wS ?_ | refine wP ?_ | refine wJ ?_ | refine wX ?_ | refine wY ?_))
        clear hF
        repeat refine evDone ?_
        try (show AW _ _ _ _ _)
        have hF := True.intro
        refine wC (hA := g3) ?_
        clear hF
        have hF := hw0
        repeat (first | refine wD1 ?_ | refine wD2 ?_ | refine wE1 ?_ | refine wE2 ?_ | (refine wE3 ?_; intro _) | (refine wE4 ?_; intro _) | refine wN ?_ | ((with_reducible show evIs _ (_ :: _) _ _); first | refine wQ ?_ | refine wF ?_ | refine wG ?_ | refine wT ?_ | refine wM ?_ | refine wS ?_ | refine wP ?_ | refine wJ ?_ | refine wX ?_ | refine wY ?_))
        clear hF
        repeat refine evDone ?_
        try (show AW _ _ _ _ _)
        refine ⟨rfl, ?_⟩
        refine Fit.mk _ _ _ (by simp [conv2, newEmp, convs_refl, convs, conv]) (by simp [heapFit, newEmp, conv2s, conv2, convs_refl, convs, conv]) (by intro q hq; first | (simp at hq; done) | (simp at hq; omega) | (simp at hq; simp; omega))
    · have hF := hw0
      repeat (first | refine wD1 ?_ | refine wD2 ?_ | refine wE1 ?_ | refine wE2 ?_ | (refine wE3 ?_; intro _) | (refine wE4 ?_; intro _) | refine wN ?_ | ((with_reducible show evIs _ (_ :: _) _ _); first | refine wQ ?_ | refine wF ?_ | refine wG ?_ | refine wT ?_ | refine wM ?_ | refine wS ?_ | refine wP ?_ | refine wJ ?_ | refine wX ?_ | refine wY ?_))
      clear hF
      repeat refine evDone ?_
      try (show AW _ _ _ _ _)
      have hF := True.intro
      refine wC (hA := f28 1 0) ?_
      clear hF
      have hF := hw0
      repeat (first | refine wD1 ?_ | refine wD2 ?_ | refine wE1 ?_ | refine wE2 ?_ | (refine wE3 ?_; intro _) | (refine wE4 ?_; intro _) | refine wN ?_ | ((with_reducible show evIs _ (_ :: _) _ _); first | refine wQ ?_ | refine wF ?_ | refine wG ?_ | refine wT ?_ | refine wM ?_ | refine wS ?_ | refine wP ?_ | refine wJ ?_ | refine wX ?_ | refine wY ?_))
      clear hF
      repeat refine evDone ?_
      try (show AW _ _ _ _ _)
      have hF := True.intro
      refine wC (hA := g3) ?_
      clear hF
      have hF := hw0
      repeat (first | refine wD1 ?_ | refine wD2 ?_ | refine wE1 ?_ | refine wE2 ?_ | (refine wE3 ?_; intro _) | (refine wE4 ?_; intro _) | refine wN ?_ | ((with_reducible show evIs _ (_ :: _) _ _); first | refine wQ ?_ | refine wF ?_ | refine wG ?_ | refine wT ?_ | refine wM ?_ | refine wS ?_ | refine wP ?_ | refine wJ ?_ | refine wX ?_ | refine wY ?_))
      clear hF
      repeat refine evDone ?_
      try (show AW _ _ _ _ _)
      refine ⟨rfl, ?_⟩
      refine Fit.mk _ _ _ (by simp [conv2, newEmp, convs_refl, convs, conv]) (by simp [heapFit, newEmp, conv2s, conv2, convs_refl, convs, conv]) (by intro q hq; first | (simp at hq; done) | (simp at hq; omega) | (simp at hq; simp; omega))
  refine AW.cut (st' := mkS [(1, .ptr 8 0 0), (2, .bool true), (3, .int .i64 0), (4, .bool true), (5, .int .i64 0), (7, .bool false), (9, .ptr 240 0 0), (10, .bool true), (11, .int .i64 0)] [(8, ⟨2, true, [.agg [.sl .fro [.agg [.int .i64 1, .int .i64 1, .int .i64 0, .int .i64 0, .int .i64 0, .int .i64 0, .str ⟨#[119]⟩, .str ⟨#[114, 49]⟩, .str ⟨#[]⟩, .str ⟨#[111, 110, 101]⟩, .int .i64 1, .int .i64 5, .int .i64 1], .agg [.int .i64 2, .int .i64 1, .int .i64 0, .int .i64 0, .int .i64 0, .int .i64 0, .str ⟨#[119]⟩, .str ⟨#[114, 49]⟩, .str ⟨#[]⟩, .str ⟨#[]⟩, .int .i64 0, .int .i64 0, .int .i64 0]], .int .i64 1]]⟩), (240, ⟨13, true, [.agg [.int .i64 1, .int .i64 1, .int .i64 0, .int .i64 0, .int .i64 0, .int .i64 0, .str ⟨#[119]⟩, .str ⟨#[114, 49]⟩, .str ⟨#[]⟩, .str ⟨#[111, 110, 101]⟩, .int .i64 1, .int .i64 5, .int .i64 1]]⟩)] 400) ?_ ?_
  · refine AW.reg ?_
    have hF := hw0
    repeat (first | refine wD1 ?_ | refine wD2 ?_ | refine wE1 ?_ | refine wE2 ?_ | (refine wE3 ?_; intro _) | (refine wE4 ?_; intro _) | refine wN ?_ | ((with_reducible show evIs _ (_ :: _) _ _); first | refine wQ ?_ | refine wF ?_ | refine wG ?_ | refine wT ?_ | refine wM ?_ | refine wS ?_ | refine wP ?_ | refine wJ ?_ | refine wX ?_ | refine wY ?_))
    clear hF
    repeat refine evDone ?_
    try (show AW _ _ _ _ _)
    have hF := True.intro
    refine wC (hA := g4) ?_
    clear hF
    have hF := hw0
    repeat (first | refine wD1 ?_ | refine wD2 ?_ | refine wE1 ?_ | refine wE2 ?_ | (refine wE3 ?_; intro _) | (refine wE4 ?_; intro _) | refine wN ?_ | ((with_reducible show evIs _ (_ :: _) _ _); first | refine wQ ?_ | refine wF ?_ | refine wG ?_ | refine wT ?_ | refine wM ?_ | refine wS ?_ | refine wP ?_ | refine wJ ?_ | refine wX ?_ | refine wY ?_))
    clear hF
    repeat refine evDone ?_
    try (show AW _ _ _ _ _)
    refine ⟨rfl, ?_⟩
    refine Fit.mk _ _ _ (by simp [conv2, newEmp, convs_refl, convs, conv]) (by simp [heapFit, newEmp, conv2s, conv2, convs_refl, convs, conv]) (by intro q hq; first | (simp at hq; done) | (simp at hq; omega) | (simp at hq; simp; omega))
  refine AW.cut (st' := mkS [(1, .ptr 8 0 0), (2, .bool true), (3, .int .i64 0), (4, .bool true), (5, .int .i64 0), (7, .bool false), (9, .ptr 240 0 0), (10, .bool true), (11, .int .i64 0), (12, .ptr 452 0 0), (13, .bool true), (14, .int .i64 0)] [(8, ⟨2, true, [.agg [.sl .fro [.agg [.int .i64 1, .int .i64 1, .int .i64 0, .int .i64 0, .int .i64 0, .int .i64 0, .str ⟨#[119]⟩, .str ⟨#[114, 49]⟩, .str ⟨#[]⟩, .str ⟨#[111, 110, 101]⟩, .int .i64 1, .int .i64 5, .int .i64 1], .agg [.int .i64 2, .int .i64 1, .int .i64 0, .int .i64 0, .int .i64 0, .int .i64 0, .str ⟨#[119]⟩, .str ⟨#[114, 49]⟩, .str ⟨#[]⟩, .str ⟨#[116, 119, 111]⟩, .int .i64 2, .int .i64 6, .int .i64 1]], .int .i64 2]]⟩), (240, ⟨13, true, [.agg [.int .i64 1, .int .i64 1, .int .i64 0, .int .i64 0, .int .i64 0, .int .i64 0, .str ⟨#[119]⟩, .str ⟨#[114, 49]⟩, .str ⟨#[]⟩, .str ⟨#[111, 110, 101]⟩, .int .i64 1, .int .i64 5, .int .i64 1]]⟩), (452, ⟨13, true, [.agg [.int .i64 2, .int .i64 1, .int .i64 0, .int .i64 0, .int .i64 0, .int .i64 0, .str ⟨#[119]⟩, .str ⟨#[114, 49]⟩, .str ⟨#[]⟩, .str ⟨#[116, 119, 111]⟩, .int .i64 2, .int .i64 6, .int .i64 1]]⟩)] 600) ?_ ?_
  · refine AW.reg ?_
    have hF := hw0
    repeat (first | refine wD1 ?_ | refine wD2 ?_ | refine wE1 ?_ | refine wE2 ?_ | (refine wE3 ?_; intro _) | (refine wE4 ?_; intro _) | refine wN ?_ | ((with_reducible show evIs _ (_ :: _) _ _); first | refine wQ ?_ | refine wF ?_ | refine wG ?_ | refine wT ?_ | refine wM ?_ | refine wS ?_ | refine wP ?_ | refine wJ ?_ | refine wX ?_ | refine wY ?_))
    clear hF
    repeat refine evDone ?_
    try (show AW _ _ _ _ _)
    have hF := True.intro
    refine wC (hA := g5) ?_
    clear hF
    have hF := hw0
    repeat (first | refine wD1 ?_ | refine wD2 ?_ | refine wE1 ?_ | refine wE2 ?_ | (refine wE3 ?_; intro _) | (refine wE4 ?_; intro _) | refine wN ?_ | ((with_reducible show evIs _ (_ :: _) _ _); first | refine wQ ?_ | refine wF ?_ | refine wG ?_ | refine wT ?_ | refine wM ?_ | refine wS ?_ | refine wP ?_ | refine wJ ?_ | refine wX ?_ | refine wY ?_))
    clear hF
    repeat refine evDone ?_
    try (show AW _ _ _ _ _)
    refine ⟨rfl, ?_⟩
    refine Fit.mk _ _ _ (by simp [conv2, newEmp, convs_refl, convs, conv]) (by simp [heapFit, newEmp, conv2s, conv2, convs_refl, convs, conv]) (by intro q hq; first | (simp at hq; done) | (simp at hq; omega) | (simp at hq; simp; omega))
  refine AW.cut (st' := mkS [(1, .ptr 8 0 0), (2, .bool true), (3, .int .i64 0), (4, .bool true), (5, .int .i64 0), (7, .bool false), (9, .ptr 240 0 0), (10, .bool true), (11, .int .i64 0), (12, .ptr 452 0 0), (13, .bool true), (14, .int .i64 0), (17, .bool false)] [(8, ⟨2, true, [.agg [.sl .fro [.agg [.int .i64 1, .int .i64 1, .int .i64 0, .int .i64 0, .int .i64 0, .int .i64 0, .str ⟨#[119]⟩, .str ⟨#[114, 49]⟩, .str ⟨#[]⟩, .str ⟨#[111, 110, 101]⟩, .int .i64 1, .int .i64 5, .int .i64 1], .agg [.int .i64 2, .int .i64 1, .int .i64 0, .int .i64 0, .int .i64 0, .int .i64 0, .str ⟨#[119]⟩, .str ⟨#[114, 49]⟩, .str ⟨#[]⟩, .str ⟨#[116, 119, 111]⟩, .int .i64 2, .int .i64 6, .int .i64 1]], .int .i64 2]]⟩), (240, ⟨13, true, [.agg [.int .i64 1, .int .i64 1, .int .i64 0, .int .i64 0, .int .i64 0, .int .i64 0, .str ⟨#[119]⟩, .str ⟨#[114, 49]⟩, .str ⟨#[]⟩, .str ⟨#[111, 110, 101]⟩, .int .i64 1, .int .i64 5, .int .i64 1]]⟩), (452, ⟨13, true, [.agg [.int .i64 2, .int .i64 1, .int .i64 0, .int .i64 0, .int .i64 0, .int .i64 0, .str ⟨#[119]⟩, .str ⟨#[114, 49]⟩, .str ⟨#[]⟩, .str ⟨#[116, 119, 111]⟩, .int .i64 2, .int .i64 6, .int .i64 1]]⟩)] 800) ?_ ?_
  · refine AW.reg ?_
    have hF := hw0
    repeat (first | refine wD1 ?_ | refine wD2 ?_ | refine wE1 ?_ | refine wE2 ?_ | (refine wE3 ?_; intro _) | (refine wE4 ?_; intro _) | refine wN ?_ | ((with_reducible show evIs _ (_ :: _) _ _); first | refine wQ ?_ | refine wF ?_ | refine wG ?_ | refine wT ?_ | refine wM ?_ | refine wS ?_ | refine wP ?_ | refine wJ ?_ | refine wX ?_ | refine wY ?_))
    clear hF
    repeat refine evDone ?_
    try (show AW _ _ _ _ _)
    have hF := True.intro
    refine wC (hA := g6) ?_
    clear hF
    have hF := hw0
    repeat (first | refine wD1 ?_ | refine wD2 ?_ | refine wE1 ?_ | refine wE2 ?_ | (refine wE3 ?_; intro _) | (refine wE4 ?_; intro _) | refine wN ?_ | ((with_reducible show evIs _ (_ :: _) _ _); first | refine wQ ?_ | refine wF ?_ | refine wG ?_ | refine wT ?_ | refine wM ?_ | refine wS ?_ | refine wP ?_ | refine wJ ?_ | refine wX ?_ | refine wY ?_))
    clear hF
    repeat refine evDone ?_
    try (show AW _ _ _ _ _)
    refine ⟨rfl, ?_⟩
    refine Fit.mk _ _ _ (by simp [conv2, newEmp, convs_refl, convs, conv]) (by simp [heapFit, newEmp, conv2s, conv2, convs_refl, convs, conv]) (by intro q hq; first | (simp at hq; done) | (simp at hq; omega) | (simp at hq; simp; omega))
  refine AW.cut (st' := mkS [(1, .ptr 8 0 0), (2, .bool true), (3, .int .i64 0), (4, .bool true), (5, .int .i64 0), (7, .bool false), (9, .ptr 240 0 0), (10, .bool true), (11, .int .i64 0), (12, .ptr 452 0 0), (13, .bool true), (14, .int .i64 0), (17, .bool false), (19, .ptr 877 0 0), (20, .bool true), (21, .int .i64 0)] [(8, ⟨2, true, [.agg [.sl .fro [.agg [.int .i64 1, .int .i64 1, .int .i64 0, .int .i64 0, .int .i64 0, .int .i64 0, .str ⟨#[119]⟩, .str ⟨#[114, 49]⟩, .str ⟨#[]⟩, .str ⟨#[116, 119, 111]⟩, .int .i64 3, .int .i64 10, .int .i64 2], .agg [.int .i64 2, .int .i64 1, .int .i64 0, .int .i64 0, .int .i64 0, .int .i64 0, .str ⟨#[119]⟩, .str ⟨#[114, 49]⟩, .str ⟨#[]⟩, .str ⟨#[116, 119, 111]⟩, .int .i64 2, .int .i64 6, .int .i64 1]], .int .i64 3]]⟩), (240, ⟨13, true, [.agg [.int .i64 1, .int .i64 1, .int .i64 0, .int .i64 0, .int .i64 0, .int .i64 0, .str ⟨#[119]⟩, .str ⟨#[114, 49]⟩, .str ⟨#[]⟩, .str ⟨#[111, 110, 101]⟩, .int .i64 1, .int .i64 5, .int .i64 1]]⟩), (452, ⟨13, true, [.agg [.int .i64 2, .int .i64 1, .int .i64 0, .int .i64 0, .int .i64 0, .int .i64 0, .str ⟨#[119]⟩, .str ⟨#[114, 49]⟩, .str ⟨#[]⟩, .str ⟨#[116, 119, 111]⟩, .int .i64 2, .int .i64 6, .int .i64 1]]⟩), (877, ⟨13, true, [.agg [.int .i64 1, .int .i64 1, .int .i64 0, .int .i64 0, .int .i64 0, .int .i64 0, .str ⟨#[119]⟩, .str ⟨#[114, 49]⟩, .str ⟨#[]⟩, .str ⟨#[116, 119, 111]⟩, .int .i64 3, .int .i64 10, .int .i64 2]]⟩)] 1000) ?_ ?_
  · refine AW.reg ?_
    have hF := hw0
    repeat (first | refine wD1 ?_ | refine wD2 ?_ | refine wE1 ?_ | refine wE2 ?_ | (refine wE3 ?_; intro _) | (refine wE4 ?_; intro _) | refine wN ?_ | ((with_reducible show evIs _ (_ :: _) _ _); first | refine wQ ?_ | refine wF ?_ | refine wG ?_ | refine wT ?_ | refine wM ?_ | refine wS ?_ | refine wP ?_ | refine wJ ?_ | refine wX ?_ | refine wY ?_))
    clear hF
    repeat refine evDone ?_
    try (show AW _ _ _ _ _)
    have hF := True.intro
    refine wC (hA := g7) ?_
    clear hF
    have hF := hw0
    repeat (first | refine wD1 ?_ | refine wD2 ?_ | refine wE1 ?_ | refine wE2 ?_ | (refine wE3 ?_; intro _) | (refine wE4 ?_; intro _) | refine wN ?_ | ((with_reducible show evIs _ (_ :: _) _ _); first | refine wQ ?_ | refine wF ?_ | refine wG ?_ | refine wT ?_ | refine wM ?_ | refine wS ?_ | refine wP ?_ | refine wJ ?_ | refine wX ?_ | refine wY ?_))
    clear hF
    repeat refine evDone ?_
    try (show AW _ _ _ _ _)
    refine ⟨rfl, ?_⟩
    refine Fit.mk _ _ _ (by simp [conv2, newEmp, convs_refl, convs, conv]) (by simp [heapFit, newEmp, conv2s, conv2, convs_refl, convs, conv]) (by intro q hq; first | (simp at hq; done) | (simp at hq; omega) | (simp at hq; simp; omega))
  refine AW.cut (st' := mkS [(1, .ptr 8 0 0), (2, .bool true), (3, .int .i64 0), (4, .bool true), (5, .int .i64 0), (7, .bool false), (9, .ptr 240 0 0), (10, .bool true), (11, .int .i64 0), (12, .ptr 452 0 0), (13, .bool true), (14, .int .i64 0), (17, .bool false), (19, .ptr 877 0 0), (20, .bool true), (21, .int .i64 0), (23, .int .i64 24)] [(8, ⟨2, true, [.agg [.sl .fro [.agg [.int .i64 1, .int .i64 1, .int .i64 0, .int .i64 0, .int .i64 0, .int .i64 0, .str ⟨#[119]⟩, .str ⟨#[114, 49]⟩, .str ⟨#[]⟩, .str ⟨#[116, 119, 111]⟩, .int .i64 3, .int .i64 10, .int .i64 2], .agg [.int .i64 2, .int .i64 1, .int .i64 0, .int .i64 0, .int .i64 0, .int .i64 0, .str ⟨#[119]⟩, .str ⟨#[114, 49]⟩, .str ⟨#[]⟩, .str ⟨#[116, 119, 111]⟩, .int .i64 2, .int .i64 6, .int .i64 1]], .int .i64 3]]⟩), (240, ⟨13, true, [.agg [.int .i64 1, .int .i64 1, .int .i64 0, .int .i64 0, .int .i64 0, .int .i64 0, .str ⟨#[119]⟩, .str ⟨#[114, 49]⟩, .str ⟨#[]⟩, .str ⟨#[111, 110, 101]⟩, .int .i64 1, .int .i64 5, .int .i64 1]]⟩), (452, ⟨13, true, [.agg [.int .i64 2, .int .i64 1, .int .i64 0, .int .i64 0, .int .i64 0, .int .i64 0, .str ⟨#[119]⟩, .str ⟨#[114, 49]⟩, .str ⟨#[]⟩, .str ⟨#[116, 119, 111]⟩, .int .i64 2, .int .i64 6, .int .i64 1]]⟩), (877, ⟨13, true, [.agg [.int .i64 1, .int .i64 1, .int .i64 0, .int .i64 0, .int .i64 0, .int .i64 0, .str ⟨#[119]⟩, .str ⟨#[114, 49]⟩, .str ⟨#[]⟩, .str ⟨#[116, 119, 111]⟩, .int .i64 3, .int .i64 10, .int .i64 2]]⟩)] 1200) ?_ ?_
  · refine AW.reg ?_
    have hF := hw0
    repeat (first | refine wD1 ?_ | refine wD2 ?_ | refine wE1 ?_ | refine wE2 ?_ | (refine wE3 ?_; intro _) | (refine wE4 ?_; intro _) | refine wN ?_ | ((with_reducible show evIs _ (_ :: _) _ _); first | refine wQ ?_ | refine wF ?_ | refine wG ?_ | refine wT ?_ | refine wM ?_ | refine wS ?_ | refine wP ?_ | refine wJ ?_ | refine wX ?_ | refine wY ?_))
    clear hF
    repeat refine evDone ?_
    try (show AW _ _ _ _ _)
    have hF := True.intro
    refine wC (hA := g8) ?_
    clear hF
    have hF := hw0
    repeat (first | refine wD1 ?_ | refine wD2 ?_ | refine wE1 ?_ | refine wE2 ?_ | (refine wE3 ?_; intro _) | (refine wE4 ?_; intro _) | refine wN ?_ | ((with_reducible show evIs _ (_ :: _) _ _); first | refine wQ ?_ | refine wF ?_ | refine wG ?_ | refine wT ?_ | refine wM ?_ | refine wS ?_ | refine wP ?_ | refine wJ ?_ | refine wX ?_ | refine wY ?_))
    clear hF
    repeat refine evDone ?_
    try (show AW _ _ _ _ _)
    refine ⟨rfl, ?_⟩
    refine Fit.mk _ _ _ (by simp [conv2, newEmp, convs_refl, convs, conv]) (by simp [heapFit, newEmp, conv2s, conv2, convs_refl, convs, conv]) (by intro q hq; first | (simp at hq; done) | (simp at hq; omega) | (simp at hq; simp; omega))
  refine AW.cut (st' := mkS [(1, .ptr 8 0 0), (2, .bool true), (3, .int .i64 0), (4, .bool true), (5, .int .i64 0), (7, .bool false), (9, .ptr 240 0 0), (10, .bool true), (11, .int .i64 0), (12, .ptr 452 0 0), (13, .bool true), (14, .int .i64 0), (17, .bool false), (19, .ptr 877 0 0), (20, .bool true), (21, .int .i64 0), (23, .int .i64 24), (24, .int .i64 0)] [(8, ⟨2, true, [.agg [.sl .fro [.agg [.int .i64 2, .int .i64 1, .int .i64 0, .int .i64 0, .int .i64 0, .int .i64 0, .str ⟨#[119]⟩, .str ⟨#[114, 49]⟩, .str ⟨#[]⟩, .str ⟨#[116, 119, 111]⟩, .int .i64 2, .int .i64 6, .int .i64 1]], .int .i64 3]]⟩), (240, ⟨13, true, [.agg [.int .i64 1, .int .i64 1, .int .i64 0, .int .i64 0, .int .i64 0, .int .i64 0, .str ⟨#[119]⟩, .str ⟨#[114, 49]⟩, .str ⟨#[]⟩, .str ⟨#[111, 110, 101]⟩, .int .i64 1, .int .i64 5, .int .i64 1]]⟩), (452, ⟨13, true, [.agg [.int .i64 2, .int .i64 1, .int .i64 0, .int .i64 0, .int .i64 0, .int .i64 0, .str ⟨#[119]⟩, .str ⟨#[114, 49]⟩, .str ⟨#[]⟩, .str ⟨#[116, 119, 111]⟩, .int .i64 2, .int .i64 6, .int .i64 1]]⟩), (877, ⟨13, true, [.agg [.int .i64 1, .int .i64 1, .int .i64 0, .int .i64 0, .int .i64 0, .int .i64 0, .str ⟨#[119]⟩, .str ⟨#[114, 49]⟩, .str ⟨#[]⟩, .str ⟨#[116, 119, 111]⟩, .int .i64 3, .int .i64 10, .int .i64 2]]⟩)] 1400) ?_ ?_
  · refine AW.reg ?_
    have hF := hw0
    repeat (first | refine wD1 ?_ | refine wD2 ?_ | refine wE1 ?_ | refine wE2 ?_ | (refine wE3 ?_; intro _) | (refine wE4 ?_; intro _) | refine wN ?_ | ((with_reducible show evIs _ (_ :: _) _ _); first | refine wQ ?_ | refine wF ?_ | refine wG ?_ | refine wT ?_ | refine wM ?_ | refine wS ?_ | refine wP ?_ | refine wJ ?_ | refine wX ?_ | refine wY ?_))
    clear hF
    repeat refine evDone ?_
    try (show AW _ _ _ _ _)
    have hF := True.intro
    refine wC (hA := g9) ?_
    clear hF
    have hF := hw0
    repeat (first | refine wD1 ?_ | refine wD2 ?_ | refine wE1 ?_ | refine wE2 ?_ | (refine wE3 ?_; intro _) | (refine wE4 ?_; intro _) | refine wN ?_ | ((with_reducible show evIs _ (_ :: _) _ _); first | refine wQ ?_ | refine wF ?_ | refine wG ?_ | refine wT ?_ | refine wM ?_ | refine wS ?_ | refine wP ?_ | refine wJ ?_ | refine wX ?_ | refine wY ?_))
    clear hF
    repeat refine evDone ?_
    try (show AW _ _ _ _ _)
    refine ⟨rfl, ?_⟩
    refine Fit.mk _ _ _ (by simp [conv2, newEmp, convs_refl, convs, conv]) (by simp [heapFit, newEmp, conv2s, conv2, convs_refl, convs, conv]) (by intro q hq; first | (simp at hq; done) | (simp at hq; omega) | (simp at hq; simp; omega))
  refine AW.seq (AW.reg ?_)
  have hF := hw0
  repeat (first | refine wD1 ?_ | refine wD2 ?_ | refine wE1 ?_ | refine wE2 ?_ | (refine wE3 ?_; intro _) | (refine wE4 ?_; intro _) | refine wN ?_ | ((with_reducible show evIs _ (_ :: _) _ _); first | refine wQ ?_ | refine wF ?_ | refine wG ?_ | refine wT ?_ | refine wM ?_ | refine wS ?_ | refine wP ?_ | refine wJ ?_ | refine wX ?_ | refine wY ?_))
  clear hF
  repeat refine evDone ?_
  try (show AW _ _ _ _ _)
  refine AW.ret (retI rfl ?_)
  simp [a8_res, resOk, resP, resV, ARes.op, R2s, R2, R1s, R1, closeOk, closeV]
end Go.Proofs.Ytloccbmiojhabaa
