/- Chapter 37, twenty-sixth part: the length of a number in bits. -/
import Derived.Test.YtljahaeachdjmaaT3
import Derived.Test.YtljahaeachdjmaaT1

set_option linter.unusedSimpArgs false
set_option linter.unusedVariables false
set_option maxHeartbeats 8000000
namespace Go.Proofs.Ytljahaeachdjmaa
open Go Go.Amb Go.IntWalk

def lenTab : List UInt8 := [0, 1, 2, 2, 3, 3, 3, 3, 4, 4, 4, 4, 4, 4, 4, 4, 5, 5, 5, 5, 5, 5, 5, 5, 5, 5, 5, 5, 5, 5, 5, 5, 6, 6, 6, 6, 6, 6, 6, 6, 6, 6, 6, 6, 6, 6, 6, 6, 6, 6, 6, 6, 6, 6, 6, 6, 6, 6, 6, 6, 6, 6, 6, 6, 7, 7, 7, 7, 7, 7, 7, 7, 7, 7, 7, 7, 7, 7, 7, 7, 7, 7, 7, 7, 7, 7, 7, 7, 7, 7, 7, 7, 7, 7, 7, 7, 7, 7, 7, 7, 7, 7, 7, 7, 7, 7, 7, 7, 7, 7, 7, 7, 7, 7, 7, 7, 7, 7, 7, 7, 7, 7, 7, 7, 7, 7, 7, 7, 8, 8, 8, 8, 8, 8, 8, 8, 8, 8, 8, 8, 8, 8, 8, 8, 8, 8, 8, 8, 8, 8, 8, 8, 8, 8, 8, 8, 8, 8, 8, 8, 8, 8, 8, 8, 8, 8, 8, 8, 8, 8, 8, 8, 8, 8, 8, 8, 8, 8, 8, 8, 8, 8, 8, 8, 8, 8, 8, 8, 8, 8, 8, 8, 8, 8, 8, 8, 8, 8, 8, 8, 8, 8, 8, 8, 8, 8, 8, 8, 8, 8, 8, 8, 8, 8, 8, 8, 8, 8, 8, 8, 8, 8, 8, 8, 8, 8, 8, 8, 8, 8, 8, 8, 8, 8, 8, 8, 8, 8, 8, 8, 8, 8, 8, 8, 8, 8, 8, 8, 8, 8, 8, 8, 8, 8, 8, 8]
def bl (n : Nat) : Nat := (lenTab.getD n 0).toNat
theorem bl_all : ((List.range 256).all fun n => decide (n = 0) || (decide (2 ^ bl n ≤ 2 * n) && decide (bl n ≤ 8))) = true := by kernel_rfl
theorem bl_le {n : Nat} (h : n < 256) (h0 : n ≠ 0) : 2 ^ bl n ≤ 2 * n ∧ bl n ≤ 8 := by
  have := List.all_eq_true.1 bl_all n (List.mem_range.2 h)
  simpa [h0] using this
theorem bl_8 {n : Nat} (h : n < 256) : bl n ≤ 8 := by
  by_cases h0 : n = 0
  · subst h0; decide
  · exact (bl_le h h0).2
theorem f51 (n : Nat) (h : n < 256) : ACall Try.prog 51 [.int .u64 n] (· = .int .i64 (bl n)) := by
  have hb := bl_8 h
  have hw : IntKind.u8.wrap (n : Int) = n := by
    have := i64_in n ⟨by omega, by omega⟩
    simp [IntKind.wrap, IntKind.bits, IntKind.signed]; omega
  have hw2 : IntKind.i64.wrap (bl n : Int) = bl n := i64_in _ ⟨by omega, by omega⟩
  have h1 : ¬ (4294967296 : Int) ≤ n := by omega
  have h2 : ¬ (65536 : Int) ≤ n := by omega
  have h3 : ¬ (256 : Int) ≤ n := by omega
  refine a51_of (by simp) ?_
  repeat refine AW.seq ?_
  refine AW.reg ?_
  have hF := True.intro
  repeat (first | refine wD1 ?_ | refine wD2 ?_ | refine wE1 ?_ | refine wE2 ?_ | (refine wE3 ?_; intro _) | (refine wE4 ?_; intro _) | refine wN ?_ | ((with_reducible show evIs _ (_ :: _) _ _); first | refine wQ ?_ | refine wF ?_ | refine wG ?_ | refine wT ?_ | refine wM ?_ | refine wS ?_ | refine wP ?_ | refine wJ ?_ | refine wX ?_ | refine wY ?_ | refine wZ ?_))
  clear hF
  repeat refine evDone ?_
  try (show AW _ _ _ _ _)
  repeat refine AW.seq ?_
  refine AW.reg ?_
  have hF := h1
  repeat (first | refine wD1 ?_ | refine wD2 ?_ | refine wE1 ?_ | refine wE2 ?_ | (refine wE3 ?_; intro _) | (refine wE4 ?_; intro _) | refine wN ?_ | ((with_reducible show evIs _ (_ :: _) _ _); first | refine wQ ?_ | refine wF ?_ | refine wG ?_ | refine wT ?_ | refine wM ?_ | refine wS ?_ | refine wP ?_ | refine wJ ?_ | refine wX ?_ | refine wY ?_ | refine wZ ?_))
  clear hF
  repeat refine evDone ?_
  try (show AW _ _ _ _ _)
  repeat refine AW.seq ?_
  refine AW.condF (by simp [h1]) (by simp [h1]) ?_
  refine AW.skip ?_
  show AW _ _ _ _ _
  repeat refine AW.seq ?_
  refine AW.reg ?_
  have hF := h2
  repeat (first | refine wD1 ?_ | refine wD2 ?_ | refine wE1 ?_ | refine wE2 ?_ | (refine wE3 ?_; intro _) | (refine wE4 ?_; intro _) | refine wN ?_ | ((with_reducible show evIs _ (_ :: _) _ _); first | refine wQ ?_ | refine wF ?_ | refine wG ?_ | refine wT ?_ | refine wM ?_ | refine wS ?_ | refine wP ?_ | refine wJ ?_ | refine wX ?_ | refine wY ?_ | refine wZ ?_))
  clear hF
  repeat refine evDone ?_
  try (show AW _ _ _ _ _)
  repeat refine AW.seq ?_
  refine AW.condF (by simp [h2]) (by simp [h2]) ?_
  refine AW.skip ?_
  show AW _ _ _ _ _
  repeat refine AW.seq ?_
  refine AW.reg ?_
  have hF := h3
  repeat (first | refine wD1 ?_ | refine wD2 ?_ | refine wE1 ?_ | refine wE2 ?_ | (refine wE3 ?_; intro _) | (refine wE4 ?_; intro _) | refine wN ?_ | ((with_reducible show evIs _ (_ :: _) _ _); first | refine wQ ?_ | refine wF ?_ | refine wG ?_ | refine wT ?_ | refine wM ?_ | refine wS ?_ | refine wP ?_ | refine wJ ?_ | refine wX ?_ | refine wY ?_ | refine wZ ?_))
  clear hF
  repeat refine evDone ?_
  try (show AW _ _ _ _ _)
  repeat refine AW.seq ?_
  refine AW.condF (by simp [h3]) (by simp [h3]) ?_
  refine AW.skip ?_
  show AW _ _ _ _ _
  repeat refine AW.seq ?_
  refine AW.reg ?_
  have hF := hw
  refine wQ ?_
  refine wQ ?_
  refine wQ ?_
  clear hF
  refine evQ rfl rfl rfl (show _ = AV.int .u8 ((bl n : Nat) : Int) by rfl) ⟨trivial, trivial, rfl, by show (0 : Int) ≤ n; omega, Int.lt_of_lt_of_le (show (n : Int) < 256 by omega) (Int.le_of_eq (by kernel_rfl))⟩ ?_
  have hF := hw2
  repeat (first | refine wD1 ?_ | refine wD2 ?_ | refine wE1 ?_ | refine wE2 ?_ | (refine wE3 ?_; intro _) | (refine wE4 ?_; intro _) | refine wN ?_ | ((with_reducible show evIs _ (_ :: _) _ _); first | refine wQ ?_ | refine wF ?_ | refine wG ?_ | refine wT ?_ | refine wM ?_ | refine wS ?_ | refine wP ?_ | refine wJ ?_ | refine wX ?_ | refine wY ?_ | refine wZ ?_))
  clear hF
  repeat refine evDone ?_
  try (show AW _ _ _ _ _)
  refine AW.ret (retI rfl ?_)
  simp [a51_res, resOk, resP, resV, ARes.op, R2s, R2, R1s, R1, closeOk, closeV]
theorem f41 (n : Nat) (h : n < 256) : ACall Try.prog 41 [.int .u64 n] (· = .int .i64 (bl n)) := by
  have h51 := f51 n h
  refine a41_of (by simp) ?_
  repeat refine AW.seq ?_
  refine AW.reg ?_
  have hF := True.intro
  repeat (first | refine wD1 ?_ | refine wD2 ?_ | refine wE1 ?_ | refine wE2 ?_ | (refine wE3 ?_; intro _) | (refine wE4 ?_; intro _) | refine wN ?_ | ((with_reducible show evIs _ (_ :: _) _ _); first | refine wQ ?_ | refine wF ?_ | refine wG ?_ | refine wT ?_ | refine wM ?_ | refine wS ?_ | refine wP ?_ | refine wJ ?_ | refine wX ?_ | refine wY ?_ | refine wZ ?_))
  clear hF
  repeat refine evDone ?_
  try (show AW _ _ _ _ _)
  repeat refine AW.seq ?_
  refine AW.condF (by simp []) (by simp []) ?_
  refine AW.skip ?_
  show AW _ _ _ _ _
  repeat refine AW.seq ?_
  refine AW.reg ?_
  have hF := True.intro
  repeat (first | refine wD1 ?_ | refine wD2 ?_ | refine wE1 ?_ | refine wE2 ?_ | (refine wE3 ?_; intro _) | (refine wE4 ?_; intro _) | refine wN ?_ | ((with_reducible show evIs _ (_ :: _) _ _); first | refine wQ ?_ | refine wF ?_ | refine wG ?_ | refine wT ?_ | refine wM ?_ | refine wS ?_ | refine wP ?_ | refine wJ ?_ | refine wX ?_ | refine wY ?_ | refine wZ ?_))
  clear hF
  repeat refine evDone ?_
  try (show AW _ _ _ _ _)
  have hF := True.intro
  refine wC (hA := h51) ?_
  clear hF
  have hF := True.intro
  repeat (first | refine wD1 ?_ | refine wD2 ?_ | refine wE1 ?_ | refine wE2 ?_ | (refine wE3 ?_; intro _) | (refine wE4 ?_; intro _) | refine wN ?_ | ((with_reducible show evIs _ (_ :: _) _ _); first | refine wQ ?_ | refine wF ?_ | refine wG ?_ | refine wT ?_ | refine wM ?_ | refine wS ?_ | refine wP ?_ | refine wJ ?_ | refine wX ?_ | refine wY ?_ | refine wZ ?_))
  clear hF
  repeat refine evDone ?_
  try (show AW _ _ _ _ _)
  refine AW.ret (retI rfl ?_)
  simp [a41_res, resOk, resP, resV, ARes.op, R2s, R2, R1s, R1, closeOk, closeV]
theorem f53 (n : Nat) (h : n < 256) : ACall Try.prog 53 [.int .i64 n] (· = .int .u64 ((2 ^ bl n : Nat) : Int)) := by
  have hb := bl_8 h
  have h41 := f41 n h
  have hw : IntKind.u64.wrap (n : Int) = n := by
    simp [IntKind.wrap, IntKind.bits, IntKind.signed]; omega
  have hp : 2 ^ bl n ≤ 2 ^ 8 := Nat.pow_le_pow_right (by omega) hb
  have hw2 : IntKind.u64.wrap ((2 : Int) ^ min (bl n) IntKind.u64.bits) = ((2 ^ bl n : Nat) : Int) := by
    rw [Nat.min_eq_left (by show bl n ≤ 64; omega)]
    rw [show ((2 : Int) ^ bl n) = ((2 ^ bl n : Nat) : Int) by simp]
    generalize 2 ^ bl n = z at hp ⊢
    simp [IntKind.wrap, IntKind.bits, IntKind.signed]; omega
  refine a53_of (by simp) ?_
  repeat refine AW.seq ?_
  refine AW.reg ?_
  have hF := True.intro
  repeat (first | refine wD1 ?_ | refine wD2 ?_ | refine wE1 ?_ | refine wE2 ?_ | (refine wE3 ?_; intro _) | (refine wE4 ?_; intro _) | refine wN ?_ | ((with_reducible show evIs _ (_ :: _) _ _); first | refine wQ ?_ | refine wF ?_ | refine wG ?_ | refine wT ?_ | refine wM ?_ | refine wS ?_ | refine wP ?_ | refine wJ ?_ | refine wX ?_ | refine wY ?_ | refine wZ ?_))
  clear hF
  repeat refine evDone ?_
  try (show AW _ _ _ _ _)
  repeat refine AW.seq ?_
  refine AW.reg ?_
  have hF := hw
  repeat (first | refine wD1 ?_ | refine wD2 ?_ | refine wE1 ?_ | refine wE2 ?_ | (refine wE3 ?_; intro _) | (refine wE4 ?_; intro _) | refine wN ?_ | ((with_reducible show evIs _ (_ :: _) _ _); first | refine wQ ?_ | refine wF ?_ | refine wG ?_ | refine wT ?_ | refine wM ?_ | refine wS ?_ | refine wP ?_ | refine wJ ?_ | refine wX ?_ | refine wY ?_ | refine wZ ?_))
  clear hF
  repeat refine evDone ?_
  try (show AW _ _ _ _ _)
  have hF := True.intro
  refine wC (hA := h41) ?_
  clear hF
  have hF := hw2
  repeat (first | refine wD1 ?_ | refine wD2 ?_ | refine wE1 ?_ | refine wE2 ?_ | (refine wE3 ?_; intro _) | (refine wE4 ?_; intro _) | refine wN ?_ | ((with_reducible show evIs _ (_ :: _) _ _); first | refine wQ ?_ | refine wF ?_ | refine wG ?_ | refine wT ?_ | refine wM ?_ | refine wS ?_ | refine wP ?_ | refine wJ ?_ | refine wX ?_ | refine wY ?_ | refine wZ ?_))
  clear hF
  repeat refine evDone ?_
  try (show AW _ _ _ _ _)
  refine AW.ret (retI rfl ?_)
  simp [a53_res, resOk, resP, resV, ARes.op, R2s, R2, R1s, R1, closeOk, closeV]
theorem f54 (N R : Nat) (hR : R < N) (x : Int) : BCall Try.prog 54 [(R, ⟨1, true, [.int .u64 x]⟩)] N [.ptr R 0 0] (fun H1 n' v => ∃ y : Int, H1 = [(R, ⟨1, true, [.int .u64 y]⟩)] ∧ n' = N + 1000 ∧ v = .int .u64 y) := by
  have hN : (∀ q, (R = N + q) = False) ∧ (∀ q, (N + q = R) = False) ∧ (R = N) = False ∧ (N = R) = False ∧ (∀ q, R < N + q) ∧ (∀ q, (N + q < N) = False) ∧ R < N := by
    refine ⟨?_, ?_, ?_, ?_, ?_, ?_, ?_⟩ <;> first | exact fun q => eq_false (by omega) | exact eq_false (by omega) | exact fun q => by omega | omega
  refine bcall_coded a54_ok (by simp) ?_
  rw [mkS_eq]
  repeat refine AW.seq ?_
  refine AW.reg ?_
  have hF := hN
  repeat (first | refine wD1 ?_ | refine wD2 ?_ | refine wE1 ?_ | refine wE2 ?_ | (refine wE3 ?_; intro _) | (refine wE4 ?_; intro _) | refine wN ?_ | ((with_reducible show evIs _ (_ :: _) _ _); first | refine wQ ?_ | refine wF ?_ | refine wG ?_ | refine wT ?_ | refine wM ?_ | refine wS ?_ | refine wP ?_ | refine wJ ?_ | refine wX ?_ | refine wY ?_ | refine wZ ?_))
  clear hF
  repeat refine evDone ?_
  try (show AW _ _ _ _ _)
  refine AW.cutE (fun y : Int => mkS [(0, .ptr R 0 0), (2, .int .u64 0)] [(R, ⟨1, true, [.int .u64 y]⟩)] N) (fun _ => True) ?_ ?_
  · refine AW.draw ?_
    have hF := hN
    repeat (first | refine wD1 ?_ | refine wD2 ?_ | refine wE1 ?_ | refine wE2 ?_ | (refine wE3 ?_; intro _) | (refine wE4 ?_; intro _) | refine wN ?_ | ((with_reducible show evIs _ (_ :: _) _ _); first | refine wQ ?_ | refine wF ?_ | refine wG ?_ | refine wT ?_ | refine wM ?_ | refine wS ?_ | refine wP ?_ | refine wJ ?_ | refine wX ?_ | refine wY ?_ | refine wZ ?_))
    clear hF
    repeat refine evDone ?_
    try (show AW _ _ _ _ _)
    refine ⟨rfl, IntKind.u64.wrap ((((x % 2 ^ IntKind.u64.bits).toNat ^^^ (IntKind.u64.wrap (x * 2 ^ min 13 IntKind.u64.bits) % 2 ^ IntKind.u64.bits).toNat : Nat)) : Int), trivial, ?_⟩
    refine Fit.mk _ _ _ (by simp [hN, conv2, newEmp, convs_refl, convs, conv]) (by simp [hN, heapFit, newEmp, conv2s, conv2, convs_refl, convs, conv]) (by intro q hq; first | (simp at hq; done) | (simp at hq; omega) | (simp at hq; simp; omega))
  intro x1 _
  rw [mkS_eq]
  refine AW.cutE (fun y : Int => mkS [(0, .ptr R 0 0), (2, .int .u64 0)] [(R, ⟨1, true, [.int .u64 y]⟩)] N) (fun _ => True) ?_ ?_
  · refine AW.draw ?_
    have hF := hN
    repeat (first | refine wD1 ?_ | refine wD2 ?_ | refine wE1 ?_ | refine wE2 ?_ | (refine wE3 ?_; intro _) | (refine wE4 ?_; intro _) | refine wN ?_ | ((with_reducible show evIs _ (_ :: _) _ _); first | refine wQ ?_ | refine wF ?_ | refine wG ?_ | refine wT ?_ | refine wM ?_ | refine wS ?_ | refine wP ?_ | refine wJ ?_ | refine wX ?_ | refine wY ?_ | refine wZ ?_))
    clear hF
    repeat refine evDone ?_
    try (show AW _ _ _ _ _)
    refine ⟨rfl, IntKind.u64.wrap ((((x1 % 2 ^ IntKind.u64.bits).toNat ^^^ (Int.fdiv x1 (2 ^ min 7 IntKind.u64.bits) % 2 ^ IntKind.u64.bits).toNat : Nat)) : Int), trivial, ?_⟩
    refine Fit.mk _ _ _ (by simp [hN, conv2, newEmp, convs_refl, convs, conv]) (by simp [hN, heapFit, newEmp, conv2s, conv2, convs_refl, convs, conv]) (by intro q hq; first | (simp at hq; done) | (simp at hq; omega) | (simp at hq; simp; omega))
  intro x2 _
  rw [mkS_eq]
  refine AW.cutE (fun y : Int => mkS [(0, .ptr R 0 0), (2, .int .u64 0)] [(R, ⟨1, true, [.int .u64 y]⟩)] N) (fun _ => True) ?_ ?_
  · refine AW.draw ?_
    have hF := hN
    repeat (first | refine wD1 ?_ | refine wD2 ?_ | refine wE1 ?_ | refine wE2 ?_ | (refine wE3 ?_; intro _) | (refine wE4 ?_; intro _) | refine wN ?_ | ((with_reducible show evIs _ (_ :: _) _ _); first | refine wQ ?_ | refine wF ?_ | refine wG ?_ | refine wT ?_ | refine wM ?_ | refine wS ?_ | refine wP ?_ | refine wJ ?_ | refine wX ?_ | refine wY ?_ | refine wZ ?_))
    clear hF
    repeat refine evDone ?_
    try (show AW _ _ _ _ _)
    refine ⟨rfl, IntKind.u64.wrap ((((x2 % 2 ^ IntKind.u64.bits).toNat ^^^ (IntKind.u64.wrap (x2 * 2 ^ min 17 IntKind.u64.bits) % 2 ^ IntKind.u64.bits).toNat : Nat)) : Int), trivial, ?_⟩
    refine Fit.mk _ _ _ (by simp [hN, conv2, newEmp, convs_refl, convs, conv]) (by simp [hN, heapFit, newEmp, conv2s, conv2, convs_refl, convs, conv]) (by intro q hq; first | (simp at hq; done) | (simp at hq; omega) | (simp at hq; simp; omega))
  intro x3 _
  rw [mkS_eq]
  repeat refine AW.seq ?_
  refine AW.reg ?_
  have hF := hN
  repeat (first | refine wD1 ?_ | refine wD2 ?_ | refine wE1 ?_ | refine wE2 ?_ | (refine wE3 ?_; intro _) | (refine wE4 ?_; intro _) | refine wN ?_ | ((with_reducible show evIs _ (_ :: _) _ _); first | refine wQ ?_ | refine wF ?_ | refine wG ?_ | refine wT ?_ | refine wM ?_ | refine wS ?_ | refine wP ?_ | refine wJ ?_ | refine wX ?_ | refine wY ?_ | refine wZ ?_))
  clear hF
  repeat refine evDone ?_
  try (show AW _ _ _ _ _)
  refine AW.ret ⟨by simp [resP, a54_res, ARes.op, hN], [(R, ⟨1, true, [.int .u64 x3]⟩)], N + 1000, [.int .u64 x3], ⟨x3, rfl, rfl, rfl⟩, by omega, by simp [hN], rfl, by simp, ?_⟩
  simp only [resV, a54_res, List.map_cons, List.map_nil, ARes.op]
  refine Fit.mk _ _ _ (by simp [hN, conv2, newEmp, convs_refl, convs, conv]) (by simp [hN, heapFit, newEmp, conv2s, conv2, convs_refl, convs, conv]) (by intro q hq; first | (simp at hq; done) | (simp at hq; omega) | (simp at hq; simp; omega))
end Go.Proofs.Ytljahaeachdjmaa

set_option linter.unusedSimpArgs false
set_option linter.unusedVariables false
set_option maxHeartbeats 8000000
namespace Go.Proofs.Ytljahaeachdjmaa
open Go Go.Amb Go.IntWalk

theorem f44 (N H : Nat) (hH : H < N) (xs : List Item) (a b : Nat) (hab : a + 12 < b) (hb : b ≤ xs.length) (hl : xs.length ≤ 200) :
    BCall Try.prog 44 [(H, ⟨2, false, xs.map Item.av⟩)] N [.hdr H 0 xs.length, .int .i64 a, .int .i64 b, .fn 35 []] (fun H1 n' v => ∃ ys, H1 = [(H, ⟨2, false, ys.map Item.av⟩)] ∧ n' = N + 10000 ∧ v = .tup [] ∧ Sam a b xs ys) := by
  have hN : (∀ q, (H = N + q) = False) ∧ (∀ q, (N + q = H) = False) ∧ (H = N) = False ∧ (N = H) = False ∧ (∀ q, H < N + q) ∧ (∀ q, (N + q < N) = False) ∧ H < N := by
    refine ⟨?_, ?_, ?_, ?_, ?_, ?_, ?_⟩ <;> first | exact fun q => eq_false (by omega) | exact eq_false (by omega) | exact fun q => by omega | omega
  refine bcall_coded a44_ok (by simp) ?_
  generalize hn : xs.length = n at *
  rw [mkS_eq]
  obtain ⟨l, hll⟩ : ∃ l, b = a + l := ⟨b - a, by omega⟩
  obtain ⟨u, hu⟩ : ∃ u, u = l / 4 := ⟨_, rfl⟩
  obtain ⟨w, hw⟩ : ∃ w, w = u * 2 := ⟨_, rfl⟩
  obtain ⟨z, hz⟩ : ∃ z, z = a + w := ⟨_, rfl⟩
  obtain ⟨i0, hi0⟩ : ∃ i0, z = i0 + 1 := ⟨z - 1, by omega⟩
  obtain ⟨z1, hz1⟩ : ∃ z1, z1 = z + 1 := ⟨_, rfl⟩
  have hl8 : (8 : Int) ≤ l := by omega
  have hqu : (l : Int).tdiv 4 = (u : Int) := by rw [hu]; rfl
  have hwL : IntKind.u64.wrap (l : Int) = l := by
    simp [IntKind.wrap, IntKind.bits, IntKind.signed]; omega
  have hwl : IntKind.i64.wrap ((b : Int) - (a : Int)) = (l : Int) := by rw [show (b : Int) - (a : Int) = (l : Int) by omega]; exact i64_in _ ⟨by omega, by omega⟩
  have hwu : IntKind.i64.wrap ((u : Int)) = (u : Int) := by rw [show (u : Int) = (u : Int) by omega]; exact i64_in _ ⟨by omega, by omega⟩
  have hww : IntKind.i64.wrap ((u : Int) * 2) = (w : Int) := by rw [show (u : Int) * 2 = (w : Int) by omega]; exact i64_in _ ⟨by omega, by omega⟩
  have hwz : IntKind.i64.wrap ((a : Int) + (w : Int)) = (z : Int) := by rw [show (a : Int) + (w : Int) = (z : Int) by omega]; exact i64_in _ ⟨by omega, by omega⟩
  have hwi : IntKind.i64.wrap ((z : Int) - 1) = (i0 : Int) := by rw [show (z : Int) - 1 = (i0 : Int) by omega]; exact i64_in _ ⟨by omega, by omega⟩
  have hwz1 : IntKind.i64.wrap ((z : Int) + 1) = (z1 : Int) := by rw [show (z : Int) + 1 = (z1 : Int) by omega]; exact i64_in _ ⟨by omega, by omega⟩
  have hbl := bl_le (n := l) (by omega) (by omega)
  have hMn : 2 ^ bl l ≠ 0 := by have := Nat.two_pow_pos (bl l); omega
  have h53 := f53 l (by omega)
  generalize 2 ^ bl l = M at hbl h53 hMn
  repeat refine AW.seq ?_
  refine AW.reg ?_
  have hF := And.intro (hwl) (hN)
  repeat (first | refine wD1 ?_ | refine wD2 ?_ | refine wE1 ?_ | refine wE2 ?_ | (refine wE3 ?_; intro _) | (refine wE4 ?_; intro _) | refine wN ?_ | ((with_reducible show evIs _ (_ :: _) _ _); first | refine wQ ?_ | refine wF ?_ | refine wG ?_ | refine wT ?_ | refine wM ?_ | refine wS ?_ | refine wP ?_ | refine wJ ?_ | refine wX ?_ | refine wY ?_ | refine wZ ?_))
  clear hF
  repeat refine evDone ?_
  try (show AW _ _ _ _ _)
  repeat refine AW.seq ?_
  refine AW.reg ?_
  have hF := And.intro (hl8) (hN)
  repeat (first | refine wD1 ?_ | refine wD2 ?_ | refine wE1 ?_ | refine wE2 ?_ | (refine wE3 ?_; intro _) | (refine wE4 ?_; intro _) | refine wN ?_ | ((with_reducible show evIs _ (_ :: _) _ _); first | refine wQ ?_ | refine wF ?_ | refine wG ?_ | refine wT ?_ | refine wM ?_ | refine wS ?_ | refine wP ?_ | refine wJ ?_ | refine wX ?_ | refine wY ?_ | refine wZ ?_))
  clear hF
  repeat refine evDone ?_
  try (show AW _ _ _ _ _)
  repeat refine AW.seq ?_
  refine AW.condT (by simp [hl8]) (by simp [hl8]) ?_
  repeat refine AW.seq ?_
  refine AW.reg ?_
  have hF := And.intro (hwL) (hN)
  repeat (first | refine wD1 ?_ | refine wD2 ?_ | refine wE1 ?_ | refine wE2 ?_ | (refine wE3 ?_; intro _) | (refine wE4 ?_; intro _) | refine wN ?_ | ((with_reducible show evIs _ (_ :: _) _ _); first | refine wQ ?_ | refine wF ?_ | refine wG ?_ | refine wT ?_ | refine wM ?_ | refine wS ?_ | refine wP ?_ | refine wJ ?_ | refine wX ?_ | refine wY ?_ | refine wZ ?_))
  clear hF
  repeat refine evDone ?_
  try (show AW _ _ _ _ _)
  repeat refine AW.seq ?_
  refine AW.reg ?_
  have hF := hN
  repeat (first | refine wD1 ?_ | refine wD2 ?_ | refine wE1 ?_ | refine wE2 ?_ | (refine wE3 ?_; intro _) | (refine wE4 ?_; intro _) | refine wN ?_ | ((with_reducible show evIs _ (_ :: _) _ _); first | refine wQ ?_ | refine wF ?_ | refine wG ?_ | refine wT ?_ | refine wM ?_ | refine wS ?_ | refine wP ?_ | refine wJ ?_ | refine wX ?_ | refine wY ?_ | refine wZ ?_))
  clear hF
  repeat refine evDone ?_
  try (show AW _ _ _ _ _)
  have hF := hN
  refine wC (hA := h53) ?_
  clear hF
  have hF := hN
  repeat (first | refine wD1 ?_ | refine wD2 ?_ | refine wE1 ?_ | refine wE2 ?_ | (refine wE3 ?_; intro _) | (refine wE4 ?_; intro _) | refine wN ?_ | ((with_reducible show evIs _ (_ :: _) _ _); first | refine wQ ?_ | refine wF ?_ | refine wG ?_ | refine wT ?_ | refine wM ?_ | refine wS ?_ | refine wP ?_ | refine wJ ?_ | refine wX ?_ | refine wY ?_ | refine wZ ?_))
  clear hF
  repeat refine evDone ?_
  try (show AW _ _ _ _ _)
  repeat refine AW.seq ?_
  refine AW.reg ?_
  have hF := And.intro (hqu) (And.intro (hwu) (And.intro (hww) (And.intro (hwz) (And.intro (hwi) (hN)))))
  repeat (first | refine wD1 ?_ | refine wD2 ?_ | refine wE1 ?_ | refine wE2 ?_ | (refine wE3 ?_; intro _) | (refine wE4 ?_; intro _) | refine wN ?_ | ((with_reducible show evIs _ (_ :: _) _ _); first | refine wQ ?_ | refine wF ?_ | refine wG ?_ | refine wT ?_ | refine wM ?_ | refine wS ?_ | refine wP ?_ | refine wJ ?_ | refine wX ?_ | refine wY ?_ | refine wZ ?_))
  clear hF
  repeat refine evDone ?_
  try (show AW _ _ _ _ _)
  have hM : (H = N + 8) = False ∧ (N + 8 = H) = False ∧ (∀ m q, N + 8 < m → (N + 8 = m + q) = False) := ⟨eq_false (by omega), eq_false (by omega), fun m q h => eq_false (by omega)⟩
  refine AW.block ?_
  refine AW.loop (fun g : List Item × Nat × Int × Nat => g.1.length = n ∧ i0 ≤ g.2.1 ∧ g.2.1 ≤ i0 + 3 ∧ N + 1000 ≤ g.2.2.2 ∧ g.2.2.2 ≤ N + 1000 + 1000 * (g.2.1 - i0) ∧ Sam a b xs g.1) (fun g => mkS [(0, .hdr H 0 n), (1, .int .i64 a), (2, .int .i64 b), (3, .fn 35 []), (8, .int .i64 l), (9, .ptr (N + 8) 0 0), (10, .int .u64 M), (11, .int .i64 g.2.1)] [(H, ⟨2, false, g.1.map Item.av⟩), (N + 8, ⟨1, true, [.int .u64 g.2.2.1]⟩)] g.2.2.2) (fun g => i0 + 3 - g.2.1) (xs, i0, l, N + 1000) ⟨hn, by dsimp only; omega, by dsimp only; omega, by dsimp only; omega, by dsimp only; omega, Sam.refl _ _ _⟩ ?_ ?_
  · refine Fit.mk _ _ _ (by simp [hN, hM, conv2, newEmp, convs_refl, convs, conv]) (by simp [hN, hM, heapFit, newEmp, conv2s, conv2, convs_refl, convs, conv]) (by intro q hq; first | (simp at hq; done) | (simp at hq; omega) | (simp at hq; simp; omega))
  rintro ⟨ys, k, x, m⟩ ⟨hy, hk1, hk2, hm1, hm2, hs⟩
  dsimp only at hy hk1 hk2 hm1 hm2 hs ⊢
  have hM : (H = N + 8) = False ∧ (N + 8 = H) = False ∧ (∀ q, (N + 8 = m + q) = False) ∧ (∀ q, (m + q = N + 8) = False) ∧ (∀ q, (H = m + q) = False) ∧ (∀ q, (m + q = H) = False) ∧ N + 8 < m ∧ H < m ∧ (∀ q, N + 8 < m + q) ∧ (∀ q, H < m + q) ∧ (N + 8 = m) = False ∧ (H = m) = False := by
    refine ⟨?_, ?_, ?_, ?_, ?_, ?_, ?_, ?_, ?_, ?_, ?_, ?_⟩ <;> first | exact fun q => eq_false (by omega) | exact eq_false (by omega) | exact fun q => by omega | omega
  by_cases hkz : k ≤ z1
  · have hkz' : (k : Int) ≤ z1 := by omega
    obtain ⟨k1, hk1'⟩ : ∃ k1, k1 = k + 1 := ⟨_, rfl⟩
    obtain ⟨M1, hM1⟩ : ∃ M1, M1 = M - 1 := ⟨_, rfl⟩
    have h54 := f54 m (N + 8) (by omega) x
    have hwk : IntKind.i64.wrap ((k : Int) + 1) = (k1 : Int) := by rw [show (k : Int) + 1 = (k1 : Int) by omega]; exact i64_in _ ⟨by omega, by omega⟩
    repeat refine AW.seq ?_
    refine AW.reg ?_
    have hF := And.intro (hqu) (And.intro (hwu) (And.intro (hww) (And.intro (hwz) (And.intro (hwz1) (And.intro (hkz') (And.intro (hN) (hM)))))))
    repeat (first | refine wD1 ?_ | refine wD2 ?_ | refine wE1 ?_ | refine wE2 ?_ | (refine wE3 ?_; intro _) | (refine wE4 ?_; intro _) | refine wN ?_ | ((with_reducible show evIs _ (_ :: _) _ _); first | refine wQ ?_ | refine wF ?_ | refine wG ?_ | refine wT ?_ | refine wM ?_ | refine wS ?_ | refine wP ?_ | refine wJ ?_ | refine wX ?_ | refine wY ?_ | refine wZ ?_))
    clear hF
    repeat refine evDone ?_
    try (show AW _ _ _ _ _)
    repeat refine AW.seq ?_
    refine AW.condT (by simp [hkz']) (by simp [hkz']) ?_
    refine AW.skip ?_
    show AW _ _ _ _ _
    refine AW.seq (AW.block ?_)
    repeat refine AW.seq ?_
    refine AW.reg ?_
    have hF := And.intro (hN) (hM)
    refine wL (hA := h54) ?_
    clear hF
    rintro _ _ _ ⟨y, rfl, rfl, rfl⟩
    have hwM : IntKind.u64.wrap ((M : Int) - 1) = (M1 : Int) := by
      have hM2 : M ≠ 0 := hMn
      simp [IntKind.wrap, IntKind.bits, IntKind.signed]; omega
    have hmm : M1 % 2 ^ IntKind.u64.bits = M1 := by
      simp [IntKind.bits]; omega
    obtain ⟨o, ho⟩ : ∃ o, o = (y % 2 ^ IntKind.u64.bits).toNat &&& M1 := ⟨_, rfl⟩
    have hoM : o ≤ M1 := by rw [ho]; exact Nat.and_le_right
    have hand : IntKind.u64.wrap ((((y % 2 ^ IntKind.u64.bits).toNat &&& M1 : Nat)) : Int) = (o : Int) := by
      rw [← ho]
      simp [IntKind.wrap, IntKind.bits, IntKind.signed]; omega
    have hwo : IntKind.i64.wrap (o : Int) = o := i64_in _ ⟨by omega, by omega⟩
    have hF := And.intro (hwM) (And.intro (hmm) (And.intro (hand) (And.intro (hwo) (And.intro (hN) (hM)))))
    repeat (first | refine wD1 ?_ | refine wD2 ?_ | refine wE1 ?_ | refine wE2 ?_ | (refine wE3 ?_; intro _) | (refine wE4 ?_; intro _) | refine wN ?_ | ((with_reducible show evIs _ (_ :: _) _ _); first | refine wQ ?_ | refine wF ?_ | refine wG ?_ | refine wT ?_ | refine wM ?_ | refine wS ?_ | refine wP ?_ | refine wJ ?_ | refine wX ?_ | refine wY ?_ | refine wZ ?_))
    clear hF
    repeat refine evDone ?_
    try (show AW _ _ _ _ _)
    repeat refine AW.seq ?_
    refine AW.reg ?_
    by_cases hol : l ≤ o
    · have hol' : (l : Int) ≤ o := by omega
      obtain ⟨p, hp⟩ : ∃ p, o = l + p := ⟨o - l, by omega⟩
      have hwp : IntKind.i64.wrap ((o : Int) - (l : Int)) = (p : Int) := by rw [show (o : Int) - (l : Int) = (p : Int) by omega]; exact i64_in _ ⟨by omega, by omega⟩
      have hF := And.intro (hol') (And.intro (hN) (hM))
      repeat (first | refine wD1 ?_ | refine wD2 ?_ | refine wE1 ?_ | refine wE2 ?_ | (refine wE3 ?_; intro _) | (refine wE4 ?_; intro _) | refine wN ?_ | ((with_reducible show evIs _ (_ :: _) _ _); first | refine wQ ?_ | refine wF ?_ | refine wG ?_ | refine wT ?_ | refine wM ?_ | refine wS ?_ | refine wP ?_ | refine wJ ?_ | refine wX ?_ | refine wY ?_ | refine wZ ?_))
      clear hF
      repeat refine evDone ?_
      try (show AW _ _ _ _ _)
      repeat refine AW.seq ?_
      refine AW.condT (by simp [hol']) (by simp [hol']) ?_
      repeat refine AW.seq ?_
      refine AW.reg ?_
      have hF := And.intro (hwp) (And.intro (hN) (hM))
      repeat (first | refine wD1 ?_ | refine wD2 ?_ | refine wE1 ?_ | refine wE2 ?_ | (refine wE3 ?_; intro _) | (refine wE4 ?_; intro _) | refine wN ?_ | ((with_reducible show evIs _ (_ :: _) _ _); first | refine wQ ?_ | refine wF ?_ | refine wG ?_ | refine wT ?_ | refine wM ?_ | refine wS ?_ | refine wP ?_ | refine wJ ?_ | refine wX ?_ | refine wY ?_ | refine wZ ?_))
      clear hF
      repeat refine evDone ?_
      try (show AW _ _ _ _ _)
      obtain ⟨q, hq⟩ : ∃ q, q = a + p := ⟨_, rfl⟩
      have hwq : IntKind.i64.wrap ((a : Int) + (p : Int)) = (q : Int) := by rw [show (a : Int) + (p : Int) = (q : Int) by omega]; exact i64_in _ ⟨by omega, by omega⟩
      have hka : (0 : Int) ≤ k := by omega
      have hkb : (k : Int) < n := by omega
      have hkc : k < n := by omega
      have hke := it_av (xs := ys) (i := k) (by omega)
      have hqa : (0 : Int) ≤ q := by omega
      have hqb : (q : Int) < n := by omega
      have hqc : q < n := by omega
      have hqe := it_av (xs := ys) (i := q) (by omega)
      have hse := it_av (xs := ys.set k (it ys q)) (i := q) (by simp; omega)
      rw [← set_av] at hse
      repeat refine AW.seq ?_
      refine AW.draw ?_
      have hF := And.intro (hwq) (And.intro (hy) (And.intro (hka) (And.intro (hkb) (And.intro (hkc) (And.intro (hke) (And.intro (hqa) (And.intro (hqb) (And.intro (hqc) (And.intro (hqe) (And.intro (hse) (And.intro (hN) (hM))))))))))))
      repeat (first | refine wD1 ?_ | refine wD2 ?_ | refine wE1 ?_ | refine wE2 ?_ | (refine wE3 ?_; intro _) | (refine wE4 ?_; intro _) | refine wN ?_ | ((with_reducible show evIs _ (_ :: _) _ _); first | refine wQ ?_ | refine wF ?_ | refine wG ?_ | refine wT ?_ | refine wM ?_ | refine wS ?_ | refine wP ?_ | refine wJ ?_ | refine wX ?_ | refine wY ?_ | refine wZ ?_))
      clear hF
      repeat refine evDone ?_
      try (show AW _ _ _ _ _)
      repeat refine AW.seq ?_
      refine AW.reg ?_
      have hF := And.intro (hwk) (And.intro (hN) (hM))
      repeat (first | refine wD1 ?_ | refine wD2 ?_ | refine wE1 ?_ | refine wE2 ?_ | (refine wE3 ?_; intro _) | (refine wE4 ?_; intro _) | refine wN ?_ | ((with_reducible show evIs _ (_ :: _) _ _); first | refine wQ ?_ | refine wF ?_ | refine wG ?_ | refine wT ?_ | refine wM ?_ | refine wS ?_ | refine wP ?_ | refine wJ ?_ | refine wX ?_ | refine wY ?_ | refine wZ ?_))
      clear hF
      repeat refine evDone ?_
      try (show AW _ _ _ _ _)
      refine ⟨(swap ys k q, k1, y, m + 1000), ⟨by rw [swap_len]; exact hy, by dsimp only; omega, by dsimp only; omega, by dsimp only; omega, by dsimp only; omega, hs.swap (by omega) (by omega) (by omega) (by omega) (by omega)⟩, by dsimp only; omega, ?_⟩
      refine Fit.mk _ _ _ (by simp [swap, Item.av, hwk, hN, hM, conv2, newEmp, convs_refl, convs, conv]) (by simp [swap, Item.av, hwk, hN, hM, heapFit, newEmp, conv2s, conv2, convs_refl, convs, conv]) (by intro q hq; first | (simp at hq; done) | (simp at hq; omega) | (simp at hq; simp; omega))
    · have hol' : ¬ (l : Int) ≤ o := by omega
      have hF := And.intro (hol') (And.intro (hN) (hM))
      repeat (first | refine wD1 ?_ | refine wD2 ?_ | refine wE1 ?_ | refine wE2 ?_ | (refine wE3 ?_; intro _) | (refine wE4 ?_; intro _) | refine wN ?_ | ((with_reducible show evIs _ (_ :: _) _ _); first | refine wQ ?_ | refine wF ?_ | refine wG ?_ | refine wT ?_ | refine wM ?_ | refine wS ?_ | refine wP ?_ | refine wJ ?_ | refine wX ?_ | refine wY ?_ | refine wZ ?_))
      clear hF
      repeat refine evDone ?_
      try (show AW _ _ _ _ _)
      repeat refine AW.seq ?_
      refine AW.condF (by simp [hol']) (by simp [hol']) ?_
      refine AW.skip ?_
      show AW _ _ _ _ _
      obtain ⟨q, hq⟩ : ∃ q, q = a + o := ⟨_, rfl⟩
      have hwq : IntKind.i64.wrap ((a : Int) + (o : Int)) = (q : Int) := by rw [show (a : Int) + (o : Int) = (q : Int) by omega]; exact i64_in _ ⟨by omega, by omega⟩
      have hka : (0 : Int) ≤ k := by omega
      have hkb : (k : Int) < n := by omega
      have hkc : k < n := by omega
      have hke := it_av (xs := ys) (i := k) (by omega)
      have hqa : (0 : Int) ≤ q := by omega
      have hqb : (q : Int) < n := by omega
      have hqc : q < n := by omega
      have hqe := it_av (xs := ys) (i := q) (by omega)
      have hse := it_av (xs := ys.set k (it ys q)) (i := q) (by simp; omega)
      rw [← set_av] at hse
      repeat refine AW.seq ?_
      refine AW.draw ?_
      have hF := And.intro (hwq) (And.intro (hy) (And.intro (hka) (And.intro (hkb) (And.intro (hkc) (And.intro (hke) (And.intro (hqa) (And.intro (hqb) (And.intro (hqc) (And.intro (hqe) (And.intro (hse) (And.intro (hN) (hM))))))))))))
      repeat (first | refine wD1 ?_ | refine wD2 ?_ | refine wE1 ?_ | refine wE2 ?_ | (refine wE3 ?_; intro _) | (refine wE4 ?_; intro _) | refine wN ?_ | ((with_reducible show evIs _ (_ :: _) _ _); first | refine wQ ?_ | refine wF ?_ | refine wG ?_ | refine wT ?_ | refine wM ?_ | refine wS ?_ | refine wP ?_ | refine wJ ?_ | refine wX ?_ | refine wY ?_ | refine wZ ?_))
      clear hF
      repeat refine evDone ?_
      try (show AW _ _ _ _ _)
      repeat refine AW.seq ?_
      refine AW.reg ?_
      have hF := And.intro (hwk) (And.intro (hN) (hM))
      repeat (first | refine wD1 ?_ | refine wD2 ?_ | refine wE1 ?_ | refine wE2 ?_ | (refine wE3 ?_; intro _) | (refine wE4 ?_; intro _) | refine wN ?_ | ((with_reducible show evIs _ (_ :: _) _ _); first | refine wQ ?_ | refine wF ?_ | refine wG ?_ | refine wT ?_ | refine wM ?_ | refine wS ?_ | refine wP ?_ | refine wJ ?_ | refine wX ?_ | refine wY ?_ | refine wZ ?_))
      clear hF
      repeat refine evDone ?_
      try (show AW _ _ _ _ _)
      refine ⟨(swap ys k q, k1, y, m + 1000), ⟨by rw [swap_len]; exact hy, by dsimp only; omega, by dsimp only; omega, by dsimp only; omega, by dsimp only; omega, hs.swap (by omega) (by omega) (by omega) (by omega) (by omega)⟩, by dsimp only; omega, ?_⟩
      refine Fit.mk _ _ _ (by simp [swap, Item.av, hwk, hN, hM, conv2, newEmp, convs_refl, convs, conv]) (by simp [swap, Item.av, hwk, hN, hM, heapFit, newEmp, conv2s, conv2, convs_refl, convs, conv]) (by intro q hq; first | (simp at hq; done) | (simp at hq; omega) | (simp at hq; simp; omega))
  · have hkz' : ¬ (k : Int) ≤ z1 := by omega
    repeat refine AW.seq ?_
    refine AW.reg ?_
    have hF := And.intro (hqu) (And.intro (hwu) (And.intro (hww) (And.intro (hwz) (And.intro (hwz1) (And.intro (hkz') (And.intro (hN) (hM)))))))
    repeat (first | refine wD1 ?_ | refine wD2 ?_ | refine wE1 ?_ | refine wE2 ?_ | (refine wE3 ?_; intro _) | (refine wE4 ?_; intro _) | refine wN ?_ | ((with_reducible show evIs _ (_ :: _) _ _); first | refine wQ ?_ | refine wF ?_ | refine wG ?_ | refine wT ?_ | refine wM ?_ | refine wS ?_ | refine wP ?_ | refine wJ ?_ | refine wX ?_ | refine wY ?_ | refine wZ ?_))
    clear hF
    repeat refine evDone ?_
    try (show AW _ _ _ _ _)
    repeat refine AW.seq ?_
    refine AW.condF (by simp [hkz']) (by simp [hkz']) ?_
    refine AW.exit ?_
    refine ⟨by simp [resP, a44_res, ARes.op, hN], [(H, ⟨2, false, ys.map Item.av⟩)], N + 10000, [], ⟨ys, rfl, rfl, rfl, hs⟩, by omega, by simp [hN], rfl, by simp, ?_⟩
    simp only [resV, a44_res, List.map_nil]
    refine Fit.mk _ _ _ (by simp [hN, hM, conv2, newEmp, convs_refl, convs, conv]) (by simp [hN, hM, heapFit, newEmp, conv2s, conv2, convs_refl, convs, conv]) (by intro q hq; first | (simp at hq; done) | (simp at hq; omega) | (simp at hq; simp; omega))
end Go.Proofs.Ytljahaeachdjmaa

set_option linter.unusedSimpArgs false
set_option linter.unusedVariables false
set_option maxHeartbeats 8000000
namespace Go.Proofs.Ytljahaeachdjmaa
open Go Go.Amb Go.IntWalk

theorem f57 (N H R : Nat) (hH : H < N) (hR : R < N) (hHR : H ≠ R) (xs : List Item) (i j : Nat) (hi : i < xs.length) (hj : j < xs.length) (s : Int) :
    BCall Try.prog 57 [(H, ⟨2, false, xs.map Item.av⟩), (R, ⟨1, true, [.int .i64 s]⟩)] N [.hdr H 0 xs.length, .int .i64 i, .int .i64 j, .ptr R 0 0, .fn 35 []] (fun H1 n' v => ∃ (s' : Int) (x y : Nat), H1 = [(H, ⟨2, false, xs.map Item.av⟩), (R, ⟨1, true, [.int .i64 s']⟩)] ∧ n' = N + 10 ∧ v = .tup [.int .i64 x, .int .i64 y] ∧ ((x = i ∧ y = j) ∨ (x = j ∧ y = i))) := by
  have hN : (∀ q, (H = N + q) = False) ∧ (∀ q, (N + q = H) = False) ∧ (H = N) = False ∧ (N = H) = False ∧ (∀ q, H < N + q) ∧ (∀ q, (N + q < N) = False) ∧ H < N := by
    refine ⟨?_, ?_, ?_, ?_, ?_, ?_, ?_⟩ <;> first | exact fun q => eq_false (by omega) | exact eq_false (by omega) | exact fun q => by omega | omega
  have hR2 : (H = R) = False ∧ (R = H) = False ∧ (∀ q, (R = N + q) = False) ∧ (∀ q, (N + q = R) = False) ∧ (∀ q, R < N + q) ∧ R < N ∧ (R = N) = False := by
    refine ⟨?_, ?_, ?_, ?_, ?_, ?_, ?_⟩ <;> first | exact fun q => eq_false (by omega) | exact eq_false (by omega) | exact fun q => by omega | omega
  refine bcall_coded a57_ok (by simp) ?_
  generalize hn : xs.length = n at *
  rw [mkS_eq]
  have hia : (0 : Int) ≤ i := by omega
  have hib : (i : Int) < n := by omega
  have hic : i < n := by omega
  have hie := it_av (xs := xs) (i := i) (by omega)
  have hja : (0 : Int) ≤ j := by omega
  have hjb : (j : Int) < n := by omega
  have hjc : j < n := by omega
  have hje := it_av (xs := xs) (i := j) (by omega)
  cases hc : bef (it xs j) (it xs i) with
  | false =>
    have h35 := c35f hc
    repeat refine AW.seq ?_
    refine AW.reg ?_
    have hF := And.intro (hN) (hR2)
    repeat (first | refine wD1 ?_ | refine wD2 ?_ | refine wE1 ?_ | refine wE2 ?_ | (refine wE3 ?_; intro _) | (refine wE4 ?_; intro _) | refine wN ?_ | ((with_reducible show evIs _ (_ :: _) _ _); first | refine wQ ?_ | refine wF ?_ | refine wG ?_ | refine wT ?_ | refine wM ?_ | refine wS ?_ | refine wP ?_ | refine wJ ?_ | refine wX ?_ | refine wY ?_ | refine wZ ?_))
    clear hF
    repeat refine evDone ?_
    try (show AW _ _ _ _ _)
    repeat refine AW.seq ?_
    refine AW.draw ?_
    have hF := And.intro (hn) (And.intro (hia) (And.intro (hib) (And.intro (hic) (And.intro (hie) (And.intro (hja) (And.intro (hjb) (And.intro (hjc) (And.intro (hje) (And.intro (hN) (hR2))))))))))
    repeat (first | refine wD1 ?_ | refine wD2 ?_ | refine wE1 ?_ | refine wE2 ?_ | (refine wE3 ?_; intro _) | (refine wE4 ?_; intro _) | refine wN ?_ | ((with_reducible show evIs _ (_ :: _) _ _); first | refine wQ ?_ | refine wF ?_ | refine wG ?_ | refine wT ?_ | refine wM ?_ | refine wS ?_ | refine wP ?_ | refine wJ ?_ | refine wX ?_ | refine wY ?_ | refine wZ ?_))
    clear hF
    repeat refine evDone ?_
    try (show AW _ _ _ _ _)
    have hF := And.intro (hN) (hR2)
    refine wV (hA := h35) ?_
    clear hF
    have hF := And.intro (hn) (And.intro (hia) (And.intro (hib) (And.intro (hic) (And.intro (hie) (And.intro (hja) (And.intro (hjb) (And.intro (hjc) (And.intro (hje) (And.intro (hN) (hR2))))))))))
    repeat (first | refine wD1 ?_ | refine wD2 ?_ | refine wE1 ?_ | refine wE2 ?_ | (refine wE3 ?_; intro _) | (refine wE4 ?_; intro _) | refine wN ?_ | ((with_reducible show evIs _ (_ :: _) _ _); first | refine wQ ?_ | refine wF ?_ | refine wG ?_ | refine wT ?_ | refine wM ?_ | refine wS ?_ | refine wP ?_ | refine wJ ?_ | refine wX ?_ | refine wY ?_ | refine wZ ?_))
    clear hF
    repeat refine evDone ?_
    try (show AW _ _ _ _ _)
    repeat refine AW.seq ?_
    refine AW.condF (by simp []) (by simp []) ?_
    refine AW.skip ?_
    show AW _ _ _ _ _
    repeat refine AW.seq ?_
    refine AW.reg ?_
    have hF := And.intro (hN) (hR2)
    repeat (first | refine wD1 ?_ | refine wD2 ?_ | refine wE1 ?_ | refine wE2 ?_ | (refine wE3 ?_; intro _) | (refine wE4 ?_; intro _) | refine wN ?_ | ((with_reducible show evIs _ (_ :: _) _ _); first | refine wQ ?_ | refine wF ?_ | refine wG ?_ | refine wT ?_ | refine wM ?_ | refine wS ?_ | refine wP ?_ | refine wJ ?_ | refine wX ?_ | refine wY ?_ | refine wZ ?_))
    clear hF
    repeat refine evDone ?_
    try (show AW _ _ _ _ _)
    refine AW.ret ⟨by simp [resP, a57_res, ARes.op, hN, hR2], [(H, ⟨2, false, xs.map Item.av⟩), (R, ⟨1, true, [.int .i64 s]⟩)], N + 10, [.int .i64 i, .int .i64 j], ⟨s, i, j, rfl, rfl, rfl, .inl ⟨rfl, rfl⟩⟩, by omega, by simp [hN, hR2], rfl, by simp, ?_⟩
    simp only [resV, a57_res, List.map_cons, List.map_nil, ARes.op]
    refine Fit.mk _ _ _ (by simp [hN, hR2, conv2, newEmp, convs_refl, convs, conv]) (by simp [hN, hR2, heapFit, newEmp, conv2s, conv2, convs_refl, convs, conv]) (by intro q hq; first | (simp at hq; done) | (simp at hq; omega) | (simp at hq; simp; omega))
  | true =>
    have h35 := c35t hc
    repeat refine AW.seq ?_
    refine AW.reg ?_
    have hF := And.intro (hN) (hR2)
    repeat (first | refine wD1 ?_ | refine wD2 ?_ | refine wE1 ?_ | refine wE2 ?_ | (refine wE3 ?_; intro _) | (refine wE4 ?_; intro _) | refine wN ?_ | ((with_reducible show evIs _ (_ :: _) _ _); first | refine wQ ?_ | refine wF ?_ | refine wG ?_ | refine wT ?_ | refine wM ?_ | refine wS ?_ | refine wP ?_ | refine wJ ?_ | refine wX ?_ | refine wY ?_ | refine wZ ?_))
    clear hF
    repeat refine evDone ?_
    try (show AW _ _ _ _ _)
    repeat refine AW.seq ?_
    refine AW.draw ?_
    have hF := And.intro (hn) (And.intro (hia) (And.intro (hib) (And.intro (hic) (And.intro (hie) (And.intro (hja) (And.intro (hjb) (And.intro (hjc) (And.intro (hje) (And.intro (hN) (hR2))))))))))
    repeat (first | refine wD1 ?_ | refine wD2 ?_ | refine wE1 ?_ | refine wE2 ?_ | (refine wE3 ?_; intro _) | (refine wE4 ?_; intro _) | refine wN ?_ | ((with_reducible show evIs _ (_ :: _) _ _); first | refine wQ ?_ | refine wF ?_ | refine wG ?_ | refine wT ?_ | refine wM ?_ | refine wS ?_ | refine wP ?_ | refine wJ ?_ | refine wX ?_ | refine wY ?_ | refine wZ ?_))
    clear hF
    repeat refine evDone ?_
    try (show AW _ _ _ _ _)
    have hF := And.intro (hN) (hR2)
    refine wV (hA := h35) ?_
    clear hF
    have hF := And.intro (hn) (And.intro (hia) (And.intro (hib) (And.intro (hic) (And.intro (hie) (And.intro (hja) (And.intro (hjb) (And.intro (hjc) (And.intro (hje) (And.intro (hN) (hR2))))))))))
    repeat (first | refine wD1 ?_ | refine wD2 ?_ | refine wE1 ?_ | refine wE2 ?_ | (refine wE3 ?_; intro _) | (refine wE4 ?_; intro _) | refine wN ?_ | ((with_reducible show evIs _ (_ :: _) _ _); first | refine wQ ?_ | refine wF ?_ | refine wG ?_ | refine wT ?_ | refine wM ?_ | refine wS ?_ | refine wP ?_ | refine wJ ?_ | refine wX ?_ | refine wY ?_ | refine wZ ?_))
    clear hF
    repeat refine evDone ?_
    try (show AW _ _ _ _ _)
    repeat refine AW.seq ?_
    refine AW.condT (by simp []) (by simp []) ?_
    repeat refine AW.seq ?_
    refine AW.reg ?_
    have hF := And.intro (hN) (hR2)
    repeat (first | refine wD1 ?_ | refine wD2 ?_ | refine wE1 ?_ | refine wE2 ?_ | (refine wE3 ?_; intro _) | (refine wE4 ?_; intro _) | refine wN ?_ | ((with_reducible show evIs _ (_ :: _) _ _); first | refine wQ ?_ | refine wF ?_ | refine wG ?_ | refine wT ?_ | refine wM ?_ | refine wS ?_ | refine wP ?_ | refine wJ ?_ | refine wX ?_ | refine wY ?_ | refine wZ ?_))
    clear hF
    repeat refine evDone ?_
    try (show AW _ _ _ _ _)
    repeat refine AW.seq ?_
    refine AW.reg ?_
    have hF := And.intro (hN) (hR2)
    repeat (first | refine wD1 ?_ | refine wD2 ?_ | refine wE1 ?_ | refine wE2 ?_ | (refine wE3 ?_; intro _) | (refine wE4 ?_; intro _) | refine wN ?_ | ((with_reducible show evIs _ (_ :: _) _ _); first | refine wQ ?_ | refine wF ?_ | refine wG ?_ | refine wT ?_ | refine wM ?_ | refine wS ?_ | refine wP ?_ | refine wJ ?_ | refine wX ?_ | refine wY ?_ | refine wZ ?_))
    clear hF
    repeat refine evDone ?_
    try (show AW _ _ _ _ _)
    refine AW.ret ⟨by simp [resP, a57_res, ARes.op, hN, hR2], [(H, ⟨2, false, xs.map Item.av⟩), (R, ⟨1, true, [.int .i64 (IntKind.i64.wrap (s + 1))]⟩)], N + 10, [.int .i64 j, .int .i64 i], ⟨IntKind.i64.wrap (s + 1), j, i, rfl, rfl, rfl, .inr ⟨rfl, rfl⟩⟩, by omega, by simp [hN, hR2], rfl, by simp, ?_⟩
    simp only [resV, a57_res, List.map_cons, List.map_nil, ARes.op]
    refine Fit.mk _ _ _ (by simp [hN, hR2, conv2, newEmp, convs_refl, convs, conv]) (by simp [hN, hR2, heapFit, newEmp, conv2s, conv2, convs_refl, convs, conv]) (by intro q hq; first | (simp at hq; done) | (simp at hq; omega) | (simp at hq; simp; omega))
theorem f56 (N H R : Nat) (hH : H < N) (hR : R < N) (hHR : H ≠ R) (xs : List Item) (i j k : Nat) (hi : i < xs.length) (hj : j < xs.length) (hk : k < xs.length) (s : Int) :
    BCall Try.prog 56 [(H, ⟨2, false, xs.map Item.av⟩), (R, ⟨1, true, [.int .i64 s]⟩)] N [.hdr H 0 xs.length, .int .i64 i, .int .i64 j, .int .i64 k, .ptr R 0 0, .fn 35 []] (fun H1 n' v => ∃ (s' : Int) (x : Nat), H1 = [(H, ⟨2, false, xs.map Item.av⟩), (R, ⟨1, true, [.int .i64 s']⟩)] ∧ n' = N + 100 ∧ v = .int .i64 x ∧ (x = i ∨ x = j ∨ x = k)) := by
  have hN : (∀ q, (H = N + q) = False) ∧ (∀ q, (N + q = H) = False) ∧ (H = N) = False ∧ (N = H) = False ∧ (∀ q, H < N + q) ∧ (∀ q, (N + q < N) = False) ∧ H < N := by
    refine ⟨?_, ?_, ?_, ?_, ?_, ?_, ?_⟩ <;> first | exact fun q => eq_false (by omega) | exact eq_false (by omega) | exact fun q => by omega | omega
  have hR2 : (H = R) = False ∧ (R = H) = False ∧ (∀ q, (R = N + q) = False) ∧ (∀ q, (N + q = R) = False) ∧ (∀ q, R < N + q) ∧ R < N ∧ (R = N) = False := by
    refine ⟨?_, ?_, ?_, ?_, ?_, ?_, ?_⟩ <;> first | exact fun q => eq_false (by omega) | exact eq_false (by omega) | exact fun q => by omega | omega
  refine bcall_coded a56_ok (by simp) ?_
  generalize hn : xs.length = n at *
  rw [mkS_eq]
  have h57 := f57 (N) H R (by omega) (by omega) hHR xs i j (by omega) (by omega) s
  rw [hn] at h57
  repeat refine AW.seq ?_
  refine AW.reg ?_
  have hF := And.intro (hN) (hR2)
  repeat (first | refine wD1 ?_ | refine wD2 ?_ | refine wE1 ?_ | refine wE2 ?_ | (refine wE3 ?_; intro _) | (refine wE4 ?_; intro _) | refine wN ?_ | ((with_reducible show evIs _ (_ :: _) _ _); first | refine wQ ?_ | refine wF ?_ | refine wG ?_ | refine wT ?_ | refine wM ?_ | refine wS ?_ | refine wP ?_ | refine wJ ?_ | refine wX ?_ | refine wY ?_ | refine wZ ?_))
  clear hF
  repeat refine evDone ?_
  try (show AW _ _ _ _ _)
  repeat refine AW.seq ?_
  refine AW.reg ?_
  have hF := And.intro (hN) (hR2)
  repeat (first | refine wD1 ?_ | refine wD2 ?_ | refine wE1 ?_ | refine wE2 ?_ | (refine wE3 ?_; intro _) | (refine wE4 ?_; intro _) | refine wN ?_ | ((with_reducible show evIs _ (_ :: _) _ _); first | refine wQ ?_ | refine wF ?_ | refine wG ?_ | refine wT ?_ | refine wM ?_ | refine wS ?_ | refine wP ?_ | refine wJ ?_ | refine wX ?_ | refine wY ?_ | refine wZ ?_))
  clear hF
  repeat refine evDone ?_
  try (show AW _ _ _ _ _)
  have hF := And.intro (hN) (hR2)
  refine wL (hA := h57) ?_
  clear hF
  rintro _ _ _ ⟨s1, x1, y1, rfl, rfl, rfl, h1⟩
  have hF := And.intro (hN) (hR2)
  repeat (first | refine wD1 ?_ | refine wD2 ?_ | refine wE1 ?_ | refine wE2 ?_ | (refine wE3 ?_; intro _) | (refine wE4 ?_; intro _) | refine wN ?_ | ((with_reducible show evIs _ (_ :: _) _ _); first | refine wQ ?_ | refine wF ?_ | refine wG ?_ | refine wT ?_ | refine wM ?_ | refine wS ?_ | refine wP ?_ | refine wJ ?_ | refine wX ?_ | refine wY ?_ | refine wZ ?_))
  clear hF
  repeat refine evDone ?_
  try (show AW _ _ _ _ _)
  have h57 := f57 (N + 10) H R (by omega) (by omega) hHR xs y1 k (by omega) (by omega) s1
  rw [hn] at h57
  repeat refine AW.seq ?_
  refine AW.reg ?_
  have hF := And.intro (hN) (hR2)
  repeat (first | refine wD1 ?_ | refine wD2 ?_ | refine wE1 ?_ | refine wE2 ?_ | (refine wE3 ?_; intro _) | (refine wE4 ?_; intro _) | refine wN ?_ | ((with_reducible show evIs _ (_ :: _) _ _); first | refine wQ ?_ | refine wF ?_ | refine wG ?_ | refine wT ?_ | refine wM ?_ | refine wS ?_ | refine wP ?_ | refine wJ ?_ | refine wX ?_ | refine wY ?_ | refine wZ ?_))
  clear hF
  repeat refine evDone ?_
  try (show AW _ _ _ _ _)
  have hF := And.intro (hN) (hR2)
  refine wL (hA := h57) ?_
  clear hF
  rintro _ _ _ ⟨s2, x2, y2, rfl, rfl, rfl, h2⟩
  have hF := And.intro (hN) (hR2)
  repeat (first | refine wD1 ?_ | refine wD2 ?_ | refine wE1 ?_ | refine wE2 ?_ | (refine wE3 ?_; intro _) | (refine wE4 ?_; intro _) | refine wN ?_ | ((with_reducible show evIs _ (_ :: _) _ _); first | refine wQ ?_ | refine wF ?_ | refine wG ?_ | refine wT ?_ | refine wM ?_ | refine wS ?_ | refine wP ?_ | refine wJ ?_ | refine wX ?_ | refine wY ?_ | refine wZ ?_))
  clear hF
  repeat refine evDone ?_
  try (show AW _ _ _ _ _)
  have h57 := f57 (N + 10 + 10) H R (by omega) (by omega) hHR xs x1 x2 (by omega) (by omega) s2
  rw [hn] at h57
  repeat refine AW.seq ?_
  refine AW.reg ?_
  have hF := And.intro (hN) (hR2)
  repeat (first | refine wD1 ?_ | refine wD2 ?_ | refine wE1 ?_ | refine wE2 ?_ | (refine wE3 ?_; intro _) | (refine wE4 ?_; intro _) | refine wN ?_ | ((with_reducible show evIs _ (_ :: _) _ _); first | refine wQ ?_ | refine wF ?_ | refine wG ?_ | refine wT ?_ | refine wM ?_ | refine wS ?_ | refine wP ?_ | refine wJ ?_ | refine wX ?_ | refine wY ?_ | refine wZ ?_))
  clear hF
  repeat refine evDone ?_
  try (show AW _ _ _ _ _)
  have hF := And.intro (hN) (hR2)
  refine wL (hA := h57) ?_
  clear hF
  rintro _ _ _ ⟨s3, x3, y3, rfl, rfl, rfl, h3⟩
  have hF := And.intro (hN) (hR2)
  repeat (first | refine wD1 ?_ | refine wD2 ?_ | refine wE1 ?_ | refine wE2 ?_ | (refine wE3 ?_; intro _) | (refine wE4 ?_; intro _) | refine wN ?_ | ((with_reducible show evIs _ (_ :: _) _ _); first | refine wQ ?_ | refine wF ?_ | refine wG ?_ | refine wT ?_ | refine wM ?_ | refine wS ?_ | refine wP ?_ | refine wJ ?_ | refine wX ?_ | refine wY ?_ | refine wZ ?_))
  clear hF
  repeat refine evDone ?_
  try (show AW _ _ _ _ _)
  repeat refine AW.seq ?_
  refine AW.reg ?_
  have hF := And.intro (hN) (hR2)
  repeat (first | refine wD1 ?_ | refine wD2 ?_ | refine wE1 ?_ | refine wE2 ?_ | (refine wE3 ?_; intro _) | (refine wE4 ?_; intro _) | refine wN ?_ | ((with_reducible show evIs _ (_ :: _) _ _); first | refine wQ ?_ | refine wF ?_ | refine wG ?_ | refine wT ?_ | refine wM ?_ | refine wS ?_ | refine wP ?_ | refine wJ ?_ | refine wX ?_ | refine wY ?_ | refine wZ ?_))
  clear hF
  repeat refine evDone ?_
  try (show AW _ _ _ _ _)
  refine AW.ret ⟨by simp [resP, a56_res, ARes.op, hN, hR2], [(H, ⟨2, false, xs.map Item.av⟩), (R, ⟨1, true, [.int .i64 s3]⟩)], N + 100, [.int .i64 y3], ⟨s3, y3, rfl, rfl, rfl, by omega⟩, by omega, by simp [hN, hR2], rfl, by simp, ?_⟩
  simp only [resV, a56_res, List.map_cons, List.map_nil, ARes.op]
  refine Fit.mk _ _ _ (by simp [hN, hR2, conv2, newEmp, convs_refl, convs, conv]) (by simp [hN, hR2, heapFit, newEmp, conv2s, conv2, convs_refl, convs, conv]) (by intro q hq; first | (simp at hq; done) | (simp at hq; omega) | (simp at hq; simp; omega))
theorem f55 (N H R : Nat) (hH : H < N) (hR : R < N) (hHR : H ≠ R) (xs : List Item) (i : Nat) (hi : i + 1 < xs.length) (hi0 : 0 < i) (hl : xs.length ≤ 200) (s : Int) :
    BCall Try.prog 55 [(H, ⟨2, false, xs.map Item.av⟩), (R, ⟨1, true, [.int .i64 s]⟩)] N [.hdr H 0 xs.length, .int .i64 i, .ptr R 0 0, .fn 35 []] (fun H1 n' v => ∃ (s' : Int) (x : Nat), H1 = [(H, ⟨2, false, xs.map Item.av⟩), (R, ⟨1, true, [.int .i64 s']⟩)] ∧ n' = N + 200 ∧ v = .int .i64 x ∧ i - 1 ≤ x ∧ x ≤ i + 1) := by
  have hN : (∀ q, (H = N + q) = False) ∧ (∀ q, (N + q = H) = False) ∧ (H = N) = False ∧ (N = H) = False ∧ (∀ q, H < N + q) ∧ (∀ q, (N + q < N) = False) ∧ H < N := by
    refine ⟨?_, ?_, ?_, ?_, ?_, ?_, ?_⟩ <;> first | exact fun q => eq_false (by omega) | exact eq_false (by omega) | exact fun q => by omega | omega
  have hR2 : (H = R) = False ∧ (R = H) = False ∧ (∀ q, (R = N + q) = False) ∧ (∀ q, (N + q = R) = False) ∧ (∀ q, R < N + q) ∧ R < N ∧ (R = N) = False := by
    refine ⟨?_, ?_, ?_, ?_, ?_, ?_, ?_⟩ <;> first | exact fun q => eq_false (by omega) | exact eq_false (by omega) | exact fun q => by omega | omega
  refine bcall_coded a55_ok (by simp) ?_
  generalize hn : xs.length = n at *
  rw [mkS_eq]
  obtain ⟨j, hj⟩ : ∃ j, i = j + 1 := ⟨i - 1, by omega⟩
  obtain ⟨k, hk⟩ : ∃ k, k = i + 1 := ⟨_, rfl⟩
  have hwj : IntKind.i64.wrap ((i : Int) - 1) = (j : Int) := by rw [show (i : Int) - 1 = (j : Int) by omega]; exact i64_in _ ⟨by omega, by omega⟩
  have hwk : IntKind.i64.wrap ((i : Int) + 1) = (k : Int) := by rw [show (i : Int) + 1 = (k : Int) by omega]; exact i64_in _ ⟨by omega, by omega⟩
  have h56 := f56 N H R (by omega) (by omega) hHR xs j i k (by omega) (by omega) (by omega) s
  rw [hn] at h56
  repeat refine AW.seq ?_
  refine AW.reg ?_
  have hF := And.intro (hN) (hR2)
  repeat (first | refine wD1 ?_ | refine wD2 ?_ | refine wE1 ?_ | refine wE2 ?_ | (refine wE3 ?_; intro _) | (refine wE4 ?_; intro _) | refine wN ?_ | ((with_reducible show evIs _ (_ :: _) _ _); first | refine wQ ?_ | refine wF ?_ | refine wG ?_ | refine wT ?_ | refine wM ?_ | refine wS ?_ | refine wP ?_ | refine wJ ?_ | refine wX ?_ | refine wY ?_ | refine wZ ?_))
  clear hF
  repeat refine evDone ?_
  try (show AW _ _ _ _ _)
  repeat refine AW.seq ?_
  refine AW.reg ?_
  have hF := And.intro (hwj) (And.intro (hwk) (And.intro (hN) (hR2)))
  repeat (first | refine wD1 ?_ | refine wD2 ?_ | refine wE1 ?_ | refine wE2 ?_ | (refine wE3 ?_; intro _) | (refine wE4 ?_; intro _) | refine wN ?_ | ((with_reducible show evIs _ (_ :: _) _ _); first | refine wQ ?_ | refine wF ?_ | refine wG ?_ | refine wT ?_ | refine wM ?_ | refine wS ?_ | refine wP ?_ | refine wJ ?_ | refine wX ?_ | refine wY ?_ | refine wZ ?_))
  clear hF
  repeat refine evDone ?_
  try (show AW _ _ _ _ _)
  have hF := And.intro (hN) (hR2)
  refine wL (hA := h56) ?_
  clear hF
  rintro _ _ _ ⟨s1, x1, rfl, rfl, rfl, h1⟩
  have hF := And.intro (hN) (hR2)
  repeat (first | refine wD1 ?_ | refine wD2 ?_ | refine wE1 ?_ | refine wE2 ?_ | (refine wE3 ?_; intro _) | (refine wE4 ?_; intro _) | refine wN ?_ | ((with_reducible show evIs _ (_ :: _) _ _); first | refine wQ ?_ | refine wF ?_ | refine wG ?_ | refine wT ?_ | refine wM ?_ | refine wS ?_ | refine wP ?_ | refine wJ ?_ | refine wX ?_ | refine wY ?_ | refine wZ ?_))
  clear hF
  repeat refine evDone ?_
  try (show AW _ _ _ _ _)
  refine AW.ret ⟨by simp [resP, a55_res, ARes.op, hN, hR2], [(H, ⟨2, false, xs.map Item.av⟩), (R, ⟨1, true, [.int .i64 s1]⟩)], N + 200, [.int .i64 x1], ⟨s1, x1, rfl, rfl, rfl, by omega, by omega⟩, by omega, by simp [hN, hR2], rfl, by simp, ?_⟩
  simp only [resV, a55_res, List.map_cons, List.map_nil, ARes.op]
  refine Fit.mk _ _ _ (by simp [hN, hR2, conv2, newEmp, convs_refl, convs, conv]) (by simp [hN, hR2, heapFit, newEmp, conv2s, conv2, convs_refl, convs, conv]) (by intro q hq; first | (simp at hq; done) | (simp at hq; omega) | (simp at hq; simp; omega))
theorem f45 (N H : Nat) (hH : H < N) (xs : List Item) (a b : Nat) (hab : a + 12 < b) (hb : b ≤ xs.length) (hl : xs.length ≤ 200) :
    BCall Try.prog 45 [(H, ⟨2, false, xs.map Item.av⟩)] N [.hdr H 0 xs.length, .int .i64 a, .int .i64 b, .fn 35 []] (fun H1 n' v => H1 = [(H, ⟨2, false, xs.map Item.av⟩)] ∧ n' = N + 2000 ∧ ∃ (x : Nat) (h : Int), v = .tup [.int .i64 x, .int .i64 h] ∧ a ≤ x ∧ x < b) := by
  have hN : (∀ q, (H = N + q) = False) ∧ (∀ q, (N + q = H) = False) ∧ (H = N) = False ∧ (N = H) = False ∧ (∀ q, H < N + q) ∧ (∀ q, (N + q < N) = False) ∧ H < N := by
    refine ⟨?_, ?_, ?_, ?_, ?_, ?_, ?_⟩ <;> first | exact fun q => eq_false (by omega) | exact eq_false (by omega) | exact fun q => by omega | omega
  refine bcall_coded a45_ok (by simp) ?_
  generalize hn : xs.length = n at *
  rw [mkS_eq]
  obtain ⟨l, hll⟩ : ∃ l, b = a + l := ⟨b - a, by omega⟩
  obtain ⟨u, hu⟩ : ∃ u, u = l / 4 := ⟨_, rfl⟩
  obtain ⟨w, hw⟩ : ∃ w, w = u * 2 := ⟨_, rfl⟩
  obtain ⟨z, hz⟩ : ∃ z, z = u * 3 := ⟨_, rfl⟩
  obtain ⟨i0, hi0⟩ : ∃ i0, i0 = a + u := ⟨_, rfl⟩
  obtain ⟨j0, hj0⟩ : ∃ j0, j0 = a + w := ⟨_, rfl⟩
  obtain ⟨k0, hk0⟩ : ∃ k0, k0 = a + z := ⟨_, rfl⟩
  have hl8 : (8 : Int) ≤ l := by omega
  have hqu : (l : Int).tdiv 4 = (u : Int) := by rw [hu]; rfl
  have hwl : IntKind.i64.wrap ((b : Int) - (a : Int)) = (l : Int) := by rw [show (b : Int) - (a : Int) = (l : Int) by omega]; exact i64_in _ ⟨by omega, by omega⟩
  have hwu : IntKind.i64.wrap ((u : Int)) = (u : Int) := by rw [show (u : Int) = (u : Int) by omega]; exact i64_in _ ⟨by omega, by omega⟩
  have hww : IntKind.i64.wrap ((u : Int) * 2) = (w : Int) := by rw [show (u : Int) * 2 = (w : Int) by omega]; exact i64_in _ ⟨by omega, by omega⟩
  have hwz : IntKind.i64.wrap ((u : Int) * 3) = (z : Int) := by rw [show (u : Int) * 3 = (z : Int) by omega]; exact i64_in _ ⟨by omega, by omega⟩
  have hwi : IntKind.i64.wrap ((a : Int) + (u : Int)) = (i0 : Int) := by rw [show (a : Int) + (u : Int) = (i0 : Int) by omega]; exact i64_in _ ⟨by omega, by omega⟩
  have hwj : IntKind.i64.wrap ((a : Int) + (w : Int)) = (j0 : Int) := by rw [show (a : Int) + (w : Int) = (j0 : Int) by omega]; exact i64_in _ ⟨by omega, by omega⟩
  have hwk : IntKind.i64.wrap ((a : Int) + (z : Int)) = (k0 : Int) := by rw [show (a : Int) + (z : Int) = (k0 : Int) by omega]; exact i64_in _ ⟨by omega, by omega⟩
  have hM : (H = N + 6) = False ∧ (N + 6 = H) = False := ⟨eq_false (by omega), eq_false (by omega)⟩
  repeat refine AW.seq ?_
  refine AW.reg ?_
  have hF := hN
  repeat (first | refine wD1 ?_ | refine wD2 ?_ | refine wE1 ?_ | refine wE2 ?_ | (refine wE3 ?_; intro _) | (refine wE4 ?_; intro _) | refine wN ?_ | ((with_reducible show evIs _ (_ :: _) _ _); first | refine wQ ?_ | refine wF ?_ | refine wG ?_ | refine wT ?_ | refine wM ?_ | refine wS ?_ | refine wP ?_ | refine wJ ?_ | refine wX ?_ | refine wY ?_ | refine wZ ?_))
  clear hF
  repeat refine evDone ?_
  try (show AW _ _ _ _ _)
  repeat refine AW.seq ?_
  refine AW.reg ?_
  have hF := And.intro (hwl) (hN)
  repeat (first | refine wD1 ?_ | refine wD2 ?_ | refine wE1 ?_ | refine wE2 ?_ | (refine wE3 ?_; intro _) | (refine wE4 ?_; intro _) | refine wN ?_ | ((with_reducible show evIs _ (_ :: _) _ _); first | refine wQ ?_ | refine wF ?_ | refine wG ?_ | refine wT ?_ | refine wM ?_ | refine wS ?_ | refine wP ?_ | refine wJ ?_ | refine wX ?_ | refine wY ?_ | refine wZ ?_))
  clear hF
  repeat refine evDone ?_
  try (show AW _ _ _ _ _)
  repeat refine AW.seq ?_
  refine AW.reg ?_
  have hF := hN
  repeat (first | refine wD1 ?_ | refine wD2 ?_ | refine wE1 ?_ | refine wE2 ?_ | (refine wE3 ?_; intro _) | (refine wE4 ?_; intro _) | refine wN ?_ | ((with_reducible show evIs _ (_ :: _) _ _); first | refine wQ ?_ | refine wF ?_ | refine wG ?_ | refine wT ?_ | refine wM ?_ | refine wS ?_ | refine wP ?_ | refine wJ ?_ | refine wX ?_ | refine wY ?_ | refine wZ ?_))
  clear hF
  repeat refine evDone ?_
  try (show AW _ _ _ _ _)
  repeat refine AW.seq ?_
  refine AW.reg ?_
  have hF := And.intro (hqu) (And.intro (hwu) (And.intro (hwi) (hN)))
  repeat (first | refine wD1 ?_ | refine wD2 ?_ | refine wE1 ?_ | refine wE2 ?_ | (refine wE3 ?_; intro _) | (refine wE4 ?_; intro _) | refine wN ?_ | ((with_reducible show evIs _ (_ :: _) _ _); first | refine wQ ?_ | refine wF ?_ | refine wG ?_ | refine wT ?_ | refine wM ?_ | refine wS ?_ | refine wP ?_ | refine wJ ?_ | refine wX ?_ | refine wY ?_ | refine wZ ?_))
  clear hF
  repeat refine evDone ?_
  try (show AW _ _ _ _ _)
  repeat refine AW.seq ?_
  refine AW.reg ?_
  have hF := And.intro (hqu) (And.intro (hwu) (And.intro (hww) (And.intro (hwj) (hN))))
  repeat (first | refine wD1 ?_ | refine wD2 ?_ | refine wE1 ?_ | refine wE2 ?_ | (refine wE3 ?_; intro _) | (refine wE4 ?_; intro _) | refine wN ?_ | ((with_reducible show evIs _ (_ :: _) _ _); first | refine wQ ?_ | refine wF ?_ | refine wG ?_ | refine wT ?_ | refine wM ?_ | refine wS ?_ | refine wP ?_ | refine wJ ?_ | refine wX ?_ | refine wY ?_ | refine wZ ?_))
  clear hF
  repeat refine evDone ?_
  try (show AW _ _ _ _ _)
  repeat refine AW.seq ?_
  refine AW.reg ?_
  have hF := And.intro (hqu) (And.intro (hwu) (And.intro (hwz) (And.intro (hwk) (hN))))
  repeat (first | refine wD1 ?_ | refine wD2 ?_ | refine wE1 ?_ | refine wE2 ?_ | (refine wE3 ?_; intro _) | (refine wE4 ?_; intro _) | refine wN ?_ | ((with_reducible show evIs _ (_ :: _) _ _); first | refine wQ ?_ | refine wF ?_ | refine wG ?_ | refine wT ?_ | refine wM ?_ | refine wS ?_ | refine wP ?_ | refine wJ ?_ | refine wX ?_ | refine wY ?_ | refine wZ ?_))
  clear hF
  repeat refine evDone ?_
  try (show AW _ _ _ _ _)
  refine AW.cutE (fun g : (Nat × Nat × Nat) × Int × Nat => mkS [(0, .hdr H 0 n), (1, .int .i64 a), (2, .int .i64 b), (3, .fn 35 []), (8, .int .i64 0), (9, .int .i64 0), (10, .int .i64 l), (11, .ptr (N + 6) 0 0), (12, .int .i64 g.1.1), (13, .int .i64 g.1.2.1), (14, .int .i64 g.1.2.2)] [(H, ⟨2, false, xs.map Item.av⟩), (N + 6, ⟨1, true, [.int .i64 g.2.1]⟩)] (g.2.2)) (fun g => a ≤ g.1.2.1 ∧ g.1.2.1 < b ∧ N + 100 ≤ g.2.2 ∧ g.2.2 ≤ N + 1200) ?_ ?_
  · repeat refine AW.seq ?_
    refine AW.reg ?_
    have hF := And.intro (hl8) (And.intro (hN) (hM))
    repeat (first | refine wD1 ?_ | refine wD2 ?_ | refine wE1 ?_ | refine wE2 ?_ | (refine wE3 ?_; intro _) | (refine wE4 ?_; intro _) | refine wN ?_ | ((with_reducible show evIs _ (_ :: _) _ _); first | refine wQ ?_ | refine wF ?_ | refine wG ?_ | refine wT ?_ | refine wM ?_ | refine wS ?_ | refine wP ?_ | refine wJ ?_ | refine wX ?_ | refine wY ?_ | refine wZ ?_))
    clear hF
    repeat refine evDone ?_
    try (show AW _ _ _ _ _)
    repeat refine AW.seq ?_
    refine AW.condT (by simp [hl8]) (by simp [hl8]) ?_
    refine AW.cutE (fun g : (Nat × Nat × Nat) × Int × Nat => mkS [(0, .hdr H 0 n), (1, .int .i64 a), (2, .int .i64 b), (3, .fn 35 []), (8, .int .i64 0), (9, .int .i64 0), (10, .int .i64 l), (11, .ptr (N + 6) 0 0), (12, .int .i64 g.1.1), (13, .int .i64 g.1.2.1), (14, .int .i64 g.1.2.2)] [(H, ⟨2, false, xs.map Item.av⟩), (N + 6, ⟨1, true, [.int .i64 g.2.1]⟩)] (g.2.2)) (fun g => a ≤ g.1.1 ∧ g.1.1 < b ∧ a ≤ g.1.2.1 ∧ g.1.2.1 < b ∧ a ≤ g.1.2.2 ∧ g.1.2.2 < b ∧ N + 100 ≤ g.2.2 ∧ g.2.2 ≤ N + 900) ?_ ?_
    · repeat refine AW.seq ?_
      refine AW.reg ?_
      by_cases hl50 : 50 ≤ l
      · have hl50' : (50 : Int) ≤ l := by omega
        have hF := And.intro (hl50') (And.intro (hN) (hM))
        repeat (first | refine wD1 ?_ | refine wD2 ?_ | refine wE1 ?_ | refine wE2 ?_ | (refine wE3 ?_; intro _) | (refine wE4 ?_; intro _) | refine wN ?_ | ((with_reducible show evIs _ (_ :: _) _ _); first | refine wQ ?_ | refine wF ?_ | refine wG ?_ | refine wT ?_ | refine wM ?_ | refine wS ?_ | refine wP ?_ | refine wJ ?_ | refine wX ?_ | refine wY ?_ | refine wZ ?_))
        clear hF
        repeat refine evDone ?_
        try (show AW _ _ _ _ _)
        repeat refine AW.seq ?_
        refine AW.condT (by simp [hl50']) (by simp [hl50']) ?_
        have h55 := f55 (N + 100) H (N + 6) (by omega) (by omega) (by omega) xs i0 (by omega) (by omega) (by omega) 0
        rw [hn] at h55
        repeat refine AW.seq ?_
        refine AW.reg ?_
        have hF := And.intro (hN) (hM)
        repeat (first | refine wD1 ?_ | refine wD2 ?_ | refine wE1 ?_ | refine wE2 ?_ | (refine wE3 ?_; intro _) | (refine wE4 ?_; intro _) | refine wN ?_ | ((with_reducible show evIs _ (_ :: _) _ _); first | refine wQ ?_ | refine wF ?_ | refine wG ?_ | refine wT ?_ | refine wM ?_ | refine wS ?_ | refine wP ?_ | refine wJ ?_ | refine wX ?_ | refine wY ?_ | refine wZ ?_))
        clear hF
        repeat refine evDone ?_
        try (show AW _ _ _ _ _)
        have hF := And.intro (hN) (hM)
        refine wL (hA := h55) ?_
        clear hF
        rintro _ _ _ ⟨s1, x1, rfl, rfl, rfl, x1a, x1b⟩
        have hF := And.intro (hN) (hM)
        repeat (first | refine wD1 ?_ | refine wD2 ?_ | refine wE1 ?_ | refine wE2 ?_ | (refine wE3 ?_; intro _) | (refine wE4 ?_; intro _) | refine wN ?_ | ((with_reducible show evIs _ (_ :: _) _ _); first | refine wQ ?_ | refine wF ?_ | refine wG ?_ | refine wT ?_ | refine wM ?_ | refine wS ?_ | refine wP ?_ | refine wJ ?_ | refine wX ?_ | refine wY ?_ | refine wZ ?_))
        clear hF
        repeat refine evDone ?_
        try (show AW _ _ _ _ _)
        have h55 := f55 (N + 100 + 200) H (N + 6) (by omega) (by omega) (by omega) xs j0 (by omega) (by omega) (by omega) s1
        rw [hn] at h55
        repeat refine AW.seq ?_
        refine AW.reg ?_
        have hF := And.intro (hN) (hM)
        repeat (first | refine wD1 ?_ | refine wD2 ?_ | refine wE1 ?_ | refine wE2 ?_ | (refine wE3 ?_; intro _) | (refine wE4 ?_; intro _) | refine wN ?_ | ((with_reducible show evIs _ (_ :: _) _ _); first | refine wQ ?_ | refine wF ?_ | refine wG ?_ | refine wT ?_ | refine wM ?_ | refine wS ?_ | refine wP ?_ | refine wJ ?_ | refine wX ?_ | refine wY ?_ | refine wZ ?_))
        clear hF
        repeat refine evDone ?_
        try (show AW _ _ _ _ _)
        have hF := And.intro (hN) (hM)
        refine wL (hA := h55) ?_
        clear hF
        rintro _ _ _ ⟨s2, x2, rfl, rfl, rfl, x2a, x2b⟩
        have hF := And.intro (hN) (hM)
        repeat (first | refine wD1 ?_ | refine wD2 ?_ | refine wE1 ?_ | refine wE2 ?_ | (refine wE3 ?_; intro _) | (refine wE4 ?_; intro _) | refine wN ?_ | ((with_reducible show evIs _ (_ :: _) _ _); first | refine wQ ?_ | refine wF ?_ | refine wG ?_ | refine wT ?_ | refine wM ?_ | refine wS ?_ | refine wP ?_ | refine wJ ?_ | refine wX ?_ | refine wY ?_ | refine wZ ?_))
        clear hF
        repeat refine evDone ?_
        try (show AW _ _ _ _ _)
        have h55 := f55 (N + 100 + 200 + 200) H (N + 6) (by omega) (by omega) (by omega) xs k0 (by omega) (by omega) (by omega) s2
        rw [hn] at h55
        repeat refine AW.seq ?_
        refine AW.reg ?_
        have hF := And.intro (hN) (hM)
        repeat (first | refine wD1 ?_ | refine wD2 ?_ | refine wE1 ?_ | refine wE2 ?_ | (refine wE3 ?_; intro _) | (refine wE4 ?_; intro _) | refine wN ?_ | ((with_reducible show evIs _ (_ :: _) _ _); first | refine wQ ?_ | refine wF ?_ | refine wG ?_ | refine wT ?_ | refine wM ?_ | refine wS ?_ | refine wP ?_ | refine wJ ?_ | refine wX ?_ | refine wY ?_ | refine wZ ?_))
        clear hF
        repeat refine evDone ?_
        try (show AW _ _ _ _ _)
        have hF := And.intro (hN) (hM)
        refine wL (hA := h55) ?_
        clear hF
        rintro _ _ _ ⟨s3, x3, rfl, rfl, rfl, x3a, x3b⟩
        have hF := And.intro (hN) (hM)
        repeat (first | refine wD1 ?_ | refine wD2 ?_ | refine wE1 ?_ | refine wE2 ?_ | (refine wE3 ?_; intro _) | (refine wE4 ?_; intro _) | refine wN ?_ | ((with_reducible show evIs _ (_ :: _) _ _); first | refine wQ ?_ | refine wF ?_ | refine wG ?_ | refine wT ?_ | refine wM ?_ | refine wS ?_ | refine wP ?_ | refine wJ ?_ | refine wX ?_ | refine wY ?_ | refine wZ ?_))
        clear hF
        repeat refine evDone ?_
        try (show AW _ _ _ _ _)
        refine ⟨rfl, ((x1, x2, x3), s3, N + 100 + 200 + 200 + 200), ⟨by dsimp only; omega, by dsimp only; omega, by dsimp only; omega, by dsimp only; omega, by dsimp only; omega, by dsimp only; omega, by dsimp only; omega, by dsimp only; omega⟩, ?_⟩
        have hf : H < N + 100 + 200 + 200 + 200 ∧ N + 6 < N + 100 + 200 + 200 + 200 := ⟨by omega, by omega⟩
        refine Fit.mk _ _ _ (by simp [hN, hM, hf, conv2, newEmp, convs_refl, convs, conv]) (by simp [hN, hM, hf, heapFit, newEmp, conv2s, conv2, convs_refl, convs, conv]) (by intro q hq; first | (simp at hq; done) | (simp at hq; omega) | (simp at hq; simp; omega))
      · have hl50' : ¬ (50 : Int) ≤ l := by omega
        have hF := And.intro (hl50') (And.intro (hN) (hM))
        repeat (first | refine wD1 ?_ | refine wD2 ?_ | refine wE1 ?_ | refine wE2 ?_ | (refine wE3 ?_; intro _) | (refine wE4 ?_; intro _) | refine wN ?_ | ((with_reducible show evIs _ (_ :: _) _ _); first | refine wQ ?_ | refine wF ?_ | refine wG ?_ | refine wT ?_ | refine wM ?_ | refine wS ?_ | refine wP ?_ | refine wJ ?_ | refine wX ?_ | refine wY ?_ | refine wZ ?_))
        clear hF
        repeat refine evDone ?_
        try (show AW _ _ _ _ _)
        repeat refine AW.seq ?_
        refine AW.condF (by simp [hl50']) (by simp [hl50']) ?_
        refine AW.skip ?_
        refine ⟨rfl, ((i0, j0, k0), 0, N + 100), ⟨by dsimp only; omega, by dsimp only; omega, by dsimp only; omega, by dsimp only; omega, by dsimp only; omega, by dsimp only; omega, by dsimp only; omega, by dsimp only; omega⟩, ?_⟩
        refine Fit.mk _ _ _ (by simp [hN, hM, conv2, newEmp, convs_refl, convs, conv]) (by simp [hN, hM, heapFit, newEmp, conv2s, conv2, convs_refl, convs, conv]) (by intro q hq; first | (simp at hq; done) | (simp at hq; omega) | (simp at hq; simp; omega))
    rintro ⟨⟨i, j, k⟩, s, m⟩ ⟨h1, h2, h3, h4, h5, h6, h7, h8⟩
    dsimp only at h1 h2 h3 h4 h5 h6 h7 h8 ⊢
    have h56 := f56 m H (N + 6) (by omega) (by omega) (by omega) xs i j k (by omega) (by omega) (by omega) s
    rw [hn] at h56
    rw [mkS_eq]
    refine AW.reg ?_
    have hm : (N + 6 < m) ∧ H < m ∧ (∀ q, (N + 6 = m + q) = False) ∧ (∀ q, (H = m + q) = False) := ⟨by omega, by omega, fun q => eq_false (by omega), fun q => eq_false (by omega)⟩
    have hF := And.intro (hN) (And.intro (hM) (hm))
    repeat (first | refine wD1 ?_ | refine wD2 ?_ | refine wE1 ?_ | refine wE2 ?_ | (refine wE3 ?_; intro _) | (refine wE4 ?_; intro _) | refine wN ?_ | ((with_reducible show evIs _ (_ :: _) _ _); first | refine wQ ?_ | refine wF ?_ | refine wG ?_ | refine wT ?_ | refine wM ?_ | refine wS ?_ | refine wP ?_ | refine wJ ?_ | refine wX ?_ | refine wY ?_ | refine wZ ?_))
    clear hF
    repeat refine evDone ?_
    try (show AW _ _ _ _ _)
    have hF := And.intro (hN) (And.intro (hM) (hm))
    refine wL (hA := h56) ?_
    clear hF
    rintro _ _ _ ⟨s1, x1, rfl, rfl, rfl, hx⟩
    have hF := And.intro (hN) (And.intro (hM) (hm))
    repeat (first | refine wD1 ?_ | refine wD2 ?_ | refine wE1 ?_ | refine wE2 ?_ | (refine wE3 ?_; intro _) | (refine wE4 ?_; intro _) | refine wN ?_ | ((with_reducible show evIs _ (_ :: _) _ _); first | refine wQ ?_ | refine wF ?_ | refine wG ?_ | refine wT ?_ | refine wM ?_ | refine wS ?_ | refine wP ?_ | refine wJ ?_ | refine wX ?_ | refine wY ?_ | refine wZ ?_))
    clear hF
    repeat refine evDone ?_
    try (show AW _ _ _ _ _)
    refine ⟨rfl, ((i, x1, k), s1, m + 100), ⟨by dsimp only; omega, by dsimp only; omega, by dsimp only; omega, by dsimp only; omega⟩, ?_⟩
    have hf : H < m + 100 ∧ N < m + 94 := ⟨by omega, by omega⟩
    refine Fit.mk _ _ _ (by simp [hN, hM, hf, conv2, newEmp, convs_refl, convs, conv]) (by simp [hN, hM, hf, heapFit, newEmp, conv2s, conv2, convs_refl, convs, conv]) (by intro q hq; first | (simp at hq; done) | (simp at hq; omega) | (simp at hq; simp; omega))
  rintro ⟨⟨i, j, k⟩, s, m⟩ ⟨h1, h2, h7, h8⟩
  dsimp only at h1 h2 h7 h8 ⊢
  rw [mkS_eq]
  repeat refine AW.seq ?_
  refine AW.reg ?_
  have hF := And.intro (hN) (hM)
  repeat (first | refine wD1 ?_ | refine wD2 ?_ | refine wE1 ?_ | refine wE2 ?_ | (refine wE3 ?_; intro _) | (refine wE4 ?_; intro _) | refine wN ?_ | ((with_reducible show evIs _ (_ :: _) _ _); first | refine wQ ?_ | refine wF ?_ | refine wG ?_ | refine wT ?_ | refine wM ?_ | refine wS ?_ | refine wP ?_ | refine wJ ?_ | refine wX ?_ | refine wY ?_ | refine wZ ?_))
  clear hF
  repeat refine evDone ?_
  try (show AW _ _ _ _ _)
  refine AW.block ?_
  repeat refine AW.seq ?_
  refine AW.reg ?_
  by_cases hs0 : s = 0
  · have hs1 : (s == 0) = true := by simp [hs0]
    have hF := And.intro (hs1) (And.intro (hN) (hM))
    repeat (first | refine wD1 ?_ | refine wD2 ?_ | refine wE1 ?_ | refine wE2 ?_ | (refine wE3 ?_; intro _) | (refine wE4 ?_; intro _) | refine wN ?_ | ((with_reducible show evIs _ (_ :: _) _ _); first | refine wQ ?_ | refine wF ?_ | refine wG ?_ | refine wT ?_ | refine wM ?_ | refine wS ?_ | refine wP ?_ | refine wJ ?_ | refine wX ?_ | refine wY ?_ | refine wZ ?_))
    clear hF
    repeat refine evDone ?_
    try (show AW _ _ _ _ _)
    repeat refine AW.seq ?_
    refine AW.condT (by simp [hs1]) (by simp [hs1]) ?_
    repeat refine AW.seq ?_
    refine AW.reg ?_
    have hF := And.intro (hN) (hM)
    repeat (first | refine wD1 ?_ | refine wD2 ?_ | refine wE1 ?_ | refine wE2 ?_ | (refine wE3 ?_; intro _) | (refine wE4 ?_; intro _) | refine wN ?_ | ((with_reducible show evIs _ (_ :: _) _ _); first | refine wQ ?_ | refine wF ?_ | refine wG ?_ | refine wT ?_ | refine wM ?_ | refine wS ?_ | refine wP ?_ | refine wJ ?_ | refine wX ?_ | refine wY ?_ | refine wZ ?_))
    clear hF
    repeat refine evDone ?_
    try (show AW _ _ _ _ _)
    refine AW.ret ⟨by simp [resP, a45_res, ARes.op, hN, hM], [(H, ⟨2, false, xs.map Item.av⟩)], N + 2000, [.int .i64 j, .int .i64 1], ⟨rfl, rfl, j, 1, rfl, by omega, by omega⟩, by omega, by simp [hN, hM], rfl, by simp, ?_⟩
    simp only [resV, a45_res, List.map_cons, List.map_nil, ARes.op]
    refine Fit.mk _ _ _ (by simp [hN, hM, conv2, newEmp, convs_refl, convs, conv]) (by simp [hN, hM, heapFit, newEmp, conv2s, conv2, convs_refl, convs, conv]) (by intro q hq; first | (simp at hq; done) | (simp at hq; omega) | (simp at hq; simp; omega))
  · have hs1 : (s == 0) = false := by simp [hs0]
    have hF := And.intro (hs0) (And.intro (hs1) (And.intro (hN) (hM)))
    repeat (first | refine wD1 ?_ | refine wD2 ?_ | refine wE1 ?_ | refine wE2 ?_ | (refine wE3 ?_; intro _) | (refine wE4 ?_; intro _) | refine wN ?_ | ((with_reducible show evIs _ (_ :: _) _ _); first | refine wQ ?_ | refine wF ?_ | refine wG ?_ | refine wT ?_ | refine wM ?_ | refine wS ?_ | refine wP ?_ | refine wJ ?_ | refine wX ?_ | refine wY ?_ | refine wZ ?_))
    clear hF
    repeat refine evDone ?_
    try (show AW _ _ _ _ _)
    repeat refine AW.seq ?_
    refine AW.condF (by simp [hs0, hs1]) (by simp [hs0, hs1]) ?_
    repeat refine AW.seq ?_
    refine AW.reg ?_
    by_cases hs2 : s = 12
    · have hs3 : (s == 12) = true := by simp [hs2]
      have hF := And.intro (hs3) (And.intro (hN) (hM))
      repeat (first | refine wD1 ?_ | refine wD2 ?_ | refine wE1 ?_ | refine wE2 ?_ | (refine wE3 ?_; intro _) | (refine wE4 ?_; intro _) | refine wN ?_ | ((with_reducible show evIs _ (_ :: _) _ _); first | refine wQ ?_ | refine wF ?_ | refine wG ?_ | refine wT ?_ | refine wM ?_ | refine wS ?_ | refine wP ?_ | refine wJ ?_ | refine wX ?_ | refine wY ?_ | refine wZ ?_))
      clear hF
      repeat refine evDone ?_
      try (show AW _ _ _ _ _)
      repeat refine AW.seq ?_
      refine AW.condT (by simp [hs3]) (by simp [hs3]) ?_
      repeat refine AW.seq ?_
      refine AW.reg ?_
      have hF := And.intro (hN) (hM)
      repeat (first | refine wD1 ?_ | refine wD2 ?_ | refine wE1 ?_ | refine wE2 ?_ | (refine wE3 ?_; intro _) | (refine wE4 ?_; intro _) | refine wN ?_ | ((with_reducible show evIs _ (_ :: _) _ _); first | refine wQ ?_ | refine wF ?_ | refine wG ?_ | refine wT ?_ | refine wM ?_ | refine wS ?_ | refine wP ?_ | refine wJ ?_ | refine wX ?_ | refine wY ?_ | refine wZ ?_))
      clear hF
      repeat refine evDone ?_
      try (show AW _ _ _ _ _)
      refine AW.ret ⟨by simp [resP, a45_res, ARes.op, hN, hM], [(H, ⟨2, false, xs.map Item.av⟩)], N + 2000, [.int .i64 j, .int .i64 2], ⟨rfl, rfl, j, 2, rfl, by omega, by omega⟩, by omega, by simp [hN, hM], rfl, by simp, ?_⟩
      simp only [resV, a45_res, List.map_cons, List.map_nil, ARes.op]
      refine Fit.mk _ _ _ (by simp [hN, hM, conv2, newEmp, convs_refl, convs, conv]) (by simp [hN, hM, heapFit, newEmp, conv2s, conv2, convs_refl, convs, conv]) (by intro q hq; first | (simp at hq; done) | (simp at hq; omega) | (simp at hq; simp; omega))
    · have hs3 : (s == 12) = false := by simp [hs2]
      have hF := And.intro (hs2) (And.intro (hs3) (And.intro (hN) (hM)))
      repeat (first | refine wD1 ?_ | refine wD2 ?_ | refine wE1 ?_ | refine wE2 ?_ | (refine wE3 ?_; intro _) | (refine wE4 ?_; intro _) | refine wN ?_ | ((with_reducible show evIs _ (_ :: _) _ _); first | refine wQ ?_ | refine wF ?_ | refine wG ?_ | refine wT ?_ | refine wM ?_ | refine wS ?_ | refine wP ?_ | refine wJ ?_ | refine wX ?_ | refine wY ?_ | refine wZ ?_))
      clear hF
      repeat refine evDone ?_
      try (show AW _ _ _ _ _)
      repeat refine AW.seq ?_
      refine AW.condF (by simp [hs2, hs3]) (by simp [hs2, hs3]) ?_
      repeat refine AW.seq ?_
      refine AW.reg ?_
      have hF := And.intro (hN) (hM)
      repeat (first | refine wD1 ?_ | refine wD2 ?_ | refine wE1 ?_ | refine wE2 ?_ | (refine wE3 ?_; intro _) | (refine wE4 ?_; intro _) | refine wN ?_ | ((with_reducible show evIs _ (_ :: _) _ _); first | refine wQ ?_ | refine wF ?_ | refine wG ?_ | refine wT ?_ | refine wM ?_ | refine wS ?_ | refine wP ?_ | refine wJ ?_ | refine wX ?_ | refine wY ?_ | refine wZ ?_))
      clear hF
      repeat refine evDone ?_
      try (show AW _ _ _ _ _)
      refine AW.ret ⟨by simp [resP, a45_res, ARes.op, hN, hM], [(H, ⟨2, false, xs.map Item.av⟩)], N + 2000, [.int .i64 j, .int .i64 0], ⟨rfl, rfl, j, 0, rfl, by omega, by omega⟩, by omega, by simp [hN, hM], rfl, by simp, ?_⟩
      simp only [resV, a45_res, List.map_cons, List.map_nil, ARes.op]
      refine Fit.mk _ _ _ (by simp [hN, hM, conv2, newEmp, convs_refl, convs, conv]) (by simp [hN, hM, heapFit, newEmp, conv2s, conv2, convs_refl, convs, conv]) (by intro q hq; first | (simp at hq; done) | (simp at hq; omega) | (simp at hq; simp; omega))
end Go.Proofs.Ytljahaeachdjmaa

set_option linter.unusedSimpArgs false
set_option linter.unusedVariables false
set_option maxHeartbeats 8000000
namespace Go.Proofs.Ytljahaeachdjmaa
open Go Go.Amb Go.IntWalk

theorem f46 (N H : Nat) (hH : H < N) (xs : List Item) (a b : Nat) (hab : a < b) (hb : b ≤ xs.length) (hl : xs.length ≤ 200) :
    BCall Try.prog 46 [(H, ⟨2, false, xs.map Item.av⟩)] N [.hdr H 0 xs.length, .int .i64 a, .int .i64 b, .fn 35 []] (SP N H fun ys v => Sam a b xs ys ∧ v = .tup []) := by
  have hN : (∀ q, (H = N + q) = False) ∧ (∀ q, (N + q = H) = False) ∧ (H = N) = False ∧ (N = H) = False ∧ (∀ q, H < N + q) ∧ (∀ q, (N + q < N) = False) ∧ H < N := by
    refine ⟨?_, ?_, ?_, ?_, ?_, ?_, ?_⟩ <;> first | exact fun q => eq_false (by omega) | exact eq_false (by omega) | exact fun q => by omega | omega
  refine bcall_coded a46_ok (by simp) ?_
  generalize hn : xs.length = n at *
  rw [mkS_eq]
  obtain ⟨j0, hj0⟩ : ∃ j, b = j + 1 := ⟨b - 1, by omega⟩
  have hwj : IntKind.i64.wrap ((b : Int) - 1) = (j0 : Int) := by rw [show (b : Int) - 1 = (j0 : Int) by omega]; exact i64_in _ ⟨by omega, by omega⟩
  repeat refine AW.seq ?_
  refine AW.reg ?_
  have hF := hN
  repeat (first | refine wD1 ?_ | refine wD2 ?_ | refine wE1 ?_ | refine wE2 ?_ | (refine wE3 ?_; intro _) | (refine wE4 ?_; intro _) | refine wN ?_ | ((with_reducible show evIs _ (_ :: _) _ _); first | refine wQ ?_ | refine wF ?_ | refine wG ?_ | refine wT ?_ | refine wM ?_ | refine wS ?_ | refine wP ?_ | refine wJ ?_ | refine wX ?_ | refine wY ?_ | refine wZ ?_))
  clear hF
  repeat refine evDone ?_
  try (show AW _ _ _ _ _)
  repeat refine AW.seq ?_
  refine AW.reg ?_
  have hF := And.intro (hwj) (hN)
  repeat (first | refine wD1 ?_ | refine wD2 ?_ | refine wE1 ?_ | refine wE2 ?_ | (refine wE3 ?_; intro _) | (refine wE4 ?_; intro _) | refine wN ?_ | ((with_reducible show evIs _ (_ :: _) _ _); first | refine wQ ?_ | refine wF ?_ | refine wG ?_ | refine wT ?_ | refine wM ?_ | refine wS ?_ | refine wP ?_ | refine wJ ?_ | refine wX ?_ | refine wY ?_ | refine wZ ?_))
  clear hF
  repeat refine evDone ?_
  try (show AW _ _ _ _ _)
  refine AW.block ?_
  refine AW.loop (fun g : List Item × Nat × Nat => g.1.length = n ∧ a ≤ g.2.1 ∧ g.2.1 ≤ g.2.2 + 1 ∧ g.2.2 < b ∧ Sam a b xs g.1) (fun g => mkS [(0, .hdr H 0 n), (1, .int .i64 a), (2, .int .i64 b), (3, .fn 35 []), (8, .int .i64 g.2.1), (9, .int .i64 g.2.2)] [(H, ⟨2, false, g.1.map Item.av⟩)] N) (fun g => g.2.2 + 1 - g.2.1) (xs, a, j0) ⟨hn, by dsimp only; omega, by dsimp only; omega, by dsimp only; omega, Sam.refl _ _ _⟩ ?_ ?_
  · refine Fit.mk _ _ _ (by simp [hwj, hN, conv2, newEmp, convs_refl, convs, conv]) (by simp [hwj, hN, heapFit, newEmp, conv2s, conv2, convs_refl, convs, conv]) (by intro q hq; first | (simp at hq; done) | (simp at hq; omega) | (simp at hq; simp; omega))
  rintro ⟨ys, i, j⟩ ⟨hy, hai, hij, hjb2, hs⟩
  dsimp only at hy hai hij hjb2 hs ⊢
  by_cases hlt : i < j
  · have hlt' : (i : Int) < j := by omega
    obtain ⟨i2, hi2'⟩ : ∃ i2, i2 = i + 1 := ⟨_, rfl⟩
    obtain ⟨j2, hj2'⟩ : ∃ j2, j = j2 + 1 := ⟨j - 1, by omega⟩
    have hwi2 : IntKind.i64.wrap ((i : Int) + 1) = (i2 : Int) := by rw [show (i : Int) + 1 = (i2 : Int) by omega]; exact i64_in _ ⟨by omega, by omega⟩
    have hwj2 : IntKind.i64.wrap ((j : Int) - 1) = (j2 : Int) := by rw [show (j : Int) - 1 = (j2 : Int) by omega]; exact i64_in _ ⟨by omega, by omega⟩
    have hia : (0 : Int) ≤ i := by omega
    have hib : (i : Int) < n := by omega
    have hic : i < n := by omega
    have hie := it_av (xs := ys) (i := i) (by omega)
    have hja : (0 : Int) ≤ j := by omega
    have hjb : (j : Int) < n := by omega
    have hjc : j < n := by omega
    have hje := it_av (xs := ys) (i := j) (by omega)
    have hse := it_av (xs := ys.set i (it ys j)) (i := j) (by simp; omega)
    rw [← set_av] at hse
    repeat refine AW.seq ?_
    refine AW.reg ?_
    have hF := And.intro (hlt') (hN)
    repeat (first | refine wD1 ?_ | refine wD2 ?_ | refine wE1 ?_ | refine wE2 ?_ | (refine wE3 ?_; intro _) | (refine wE4 ?_; intro _) | refine wN ?_ | ((with_reducible show evIs _ (_ :: _) _ _); first | refine wQ ?_ | refine wF ?_ | refine wG ?_ | refine wT ?_ | refine wM ?_ | refine wS ?_ | refine wP ?_ | refine wJ ?_ | refine wX ?_ | refine wY ?_ | refine wZ ?_))
    clear hF
    repeat refine evDone ?_
    try (show AW _ _ _ _ _)
    repeat refine AW.seq ?_
    refine AW.condT (by simp [hlt']) (by simp [hlt']) ?_
    refine AW.skip ?_
    show AW _ _ _ _ _
    refine AW.block ?_
    repeat refine AW.seq ?_
    refine AW.draw ?_
    have hF := And.intro (hy) (And.intro (hia) (And.intro (hib) (And.intro (hic) (And.intro (hie) (And.intro (hja) (And.intro (hjb) (And.intro (hjc) (And.intro (hje) (And.intro (hse) (hN))))))))))
    repeat (first | refine wD1 ?_ | refine wD2 ?_ | refine wE1 ?_ | refine wE2 ?_ | (refine wE3 ?_; intro _) | (refine wE4 ?_; intro _) | refine wN ?_ | ((with_reducible show evIs _ (_ :: _) _ _); first | refine wQ ?_ | refine wF ?_ | refine wG ?_ | refine wT ?_ | refine wM ?_ | refine wS ?_ | refine wP ?_ | refine wJ ?_ | refine wX ?_ | refine wY ?_ | refine wZ ?_))
    clear hF
    repeat refine evDone ?_
    try (show AW _ _ _ _ _)
    repeat refine AW.seq ?_
    refine AW.reg ?_
    have hF := And.intro (hwi2) (hN)
    repeat (first | refine wD1 ?_ | refine wD2 ?_ | refine wE1 ?_ | refine wE2 ?_ | (refine wE3 ?_; intro _) | (refine wE4 ?_; intro _) | refine wN ?_ | ((with_reducible show evIs _ (_ :: _) _ _); first | refine wQ ?_ | refine wF ?_ | refine wG ?_ | refine wT ?_ | refine wM ?_ | refine wS ?_ | refine wP ?_ | refine wJ ?_ | refine wX ?_ | refine wY ?_ | refine wZ ?_))
    clear hF
    repeat refine evDone ?_
    try (show AW _ _ _ _ _)
    repeat refine AW.seq ?_
    refine AW.reg ?_
    have hF := And.intro (hwj2) (hN)
    repeat (first | refine wD1 ?_ | refine wD2 ?_ | refine wE1 ?_ | refine wE2 ?_ | (refine wE3 ?_; intro _) | (refine wE4 ?_; intro _) | refine wN ?_ | ((with_reducible show evIs _ (_ :: _) _ _); first | refine wQ ?_ | refine wF ?_ | refine wG ?_ | refine wT ?_ | refine wM ?_ | refine wS ?_ | refine wP ?_ | refine wJ ?_ | refine wX ?_ | refine wY ?_ | refine wZ ?_))
    clear hF
    repeat refine evDone ?_
    try (show AW _ _ _ _ _)
    refine ⟨(swap ys i j, i2, j2), ⟨by rw [swap_len]; exact hy, by dsimp only; omega, by dsimp only; omega, by dsimp only; omega, hs.swap (by omega) (by omega) (by omega) (by omega) (by omega)⟩, by dsimp only; omega, ?_⟩
    refine Fit.mk _ _ _ (by simp [swap, Item.av, hwi2, hwj2, hN, conv2, newEmp, convs_refl, convs, conv]) (by simp [swap, Item.av, hwi2, hwj2, hN, heapFit, newEmp, conv2s, conv2, convs_refl, convs, conv]) (by intro q hq; first | (simp at hq; done) | (simp at hq; omega) | (simp at hq; simp; omega))
  · have hlt' : ¬ (i : Int) < j := by omega
    repeat refine AW.seq ?_
    refine AW.reg ?_
    have hF := And.intro (hlt') (hN)
    repeat (first | refine wD1 ?_ | refine wD2 ?_ | refine wE1 ?_ | refine wE2 ?_ | (refine wE3 ?_; intro _) | (refine wE4 ?_; intro _) | refine wN ?_ | ((with_reducible show evIs _ (_ :: _) _ _); first | refine wQ ?_ | refine wF ?_ | refine wG ?_ | refine wT ?_ | refine wM ?_ | refine wS ?_ | refine wP ?_ | refine wJ ?_ | refine wX ?_ | refine wY ?_ | refine wZ ?_))
    clear hF
    repeat refine evDone ?_
    try (show AW _ _ _ _ _)
    repeat refine AW.seq ?_
    refine AW.condF (by simp [hlt']) (by simp [hlt']) ?_
    refine AW.exit ?_
    refine ⟨by simp [resP, a46_res, ARes.op], [(H, ⟨2, false, ys.map Item.av⟩)], N + 1000, [], ⟨ys, rfl, rfl, hs, rfl⟩, by omega, by simp [hN], rfl, by simp, ?_⟩
    simp only [resV, a46_res, List.map_nil]
    refine Fit.mk _ _ _ (by simp [hN, conv2, newEmp, convs_refl, convs, conv]) (by simp [hN, heapFit, newEmp, conv2s, conv2, convs_refl, convs, conv]) (by intro q hq; first | (simp at hq; done) | (simp at hq; omega) | (simp at hq; simp; omega))
end Go.Proofs.Ytljahaeachdjmaa
