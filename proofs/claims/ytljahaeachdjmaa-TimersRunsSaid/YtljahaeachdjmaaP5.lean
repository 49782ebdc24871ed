/- Chapter 37, forty-fifth part: the law of Runs. -/
import Derived.Test.YtljahaeachdjmaaO5
import Derived.Test.YtljahaeachdjmaaT9
import Derived.Test.YtljahaeachdjmaaS2

set_option linter.unusedSimpArgs false
set_option linter.unusedVariables false
set_option maxHeartbeats 8000000
namespace Go.Proofs.Ytljahaeachdjmaa
open Go Go.Amb Go.IntWalk

/-- Where the queues stand. -/
def Stand (H K n : Nat) : Prop := H ≠ 102 ∧ H ≠ 2002 ∧ K ≠ 102 ∧ K ≠ 2002 ∧ H ≠ K ∧ H < n ∧ K < n ∧ 3000 ≤ n
theorem f4 (l : List Act) : ACall Try.prog 4 [.sl .fro (l.map Act.av)] (· = .bool true) := by
  have hw := works
  refine a4_of (by simp) ?_
  repeat refine AW.seq ?_
  refine AW.reg ?_
  have hF := True.intro
  repeat ((with_reducible show evIs _ (_ :: _) _ _); first | refine wQ ?_ | refine wF ?_ | refine wG ?_ | refine wT ?_ | refine wM ?_ | refine wS ?_ | refine wP ?_)
  clear hF
  repeat refine evDone ?_
  try (show AW _ _ _ _ _)
  repeat refine AW.seq ?_
  refine AW.reg ?_
  by_cases h60 : (120 : Int) < l.length
  · have hF := h60
    repeat ((with_reducible show evIs _ (_ :: _) _ _); first | refine wQ ?_ | refine wF ?_ | refine wG ?_ | refine wT ?_ | refine wM ?_ | refine wS ?_ | refine wP ?_)
    clear hF
    repeat refine evDone ?_
    try (show AW _ _ _ _ _)
    repeat refine AW.seq ?_
    refine AW.condT (by simp []) (by simp []) ?_
    repeat refine AW.seq ?_
    refine AW.reg ?_
    have hF := True.intro
    repeat ((with_reducible show evIs _ (_ :: _) _ _); first | refine wQ ?_ | refine wF ?_ | refine wG ?_ | refine wT ?_ | refine wM ?_ | refine wS ?_ | refine wP ?_)
    clear hF
    repeat refine evDone ?_
    try (show AW _ _ _ _ _)
    have hF := True.intro
    refine wC (hA := hw) ?_
    clear hF
    have hF := True.intro
    repeat ((with_reducible show evIs _ (_ :: _) _ _); first | refine wQ ?_ | refine wF ?_ | refine wG ?_ | refine wT ?_ | refine wM ?_ | refine wS ?_ | refine wP ?_)
    clear hF
    repeat refine evDone ?_
    try (show AW _ _ _ _ _)
    refine AW.ret (retI rfl ?_)
    simp [a4_res, resOk, resP, resV, ARes.op, R2s, R2, R1s, R1, closeOk, closeV]
  have hlen : l.length ≤ 120 := by omega
  have hF := h60
  repeat ((with_reducible show evIs _ (_ :: _) _ _); first | refine wQ ?_ | refine wF ?_ | refine wG ?_ | refine wT ?_ | refine wM ?_ | refine wS ?_ | refine wP ?_)
  clear hF
  repeat refine evDone ?_
  try (show AW _ _ _ _ _)
  repeat refine AW.seq ?_
  refine AW.condF (by simp []) (by simp []) ?_
  refine AW.skip ?_
  show AW _ _ _ _ _
  have hma : (∀ (fh fq : Nat → Nat → Nat → AV) (cs : List AV), mapA fh fq (.agg cs) = .agg (cs.map (mapA fh fq))) ∧ (∀ (fh fq : Nat → Nat → Nat → AV) (r o n : Nat), mapA fh fq (.hdr r o n) = fh r o n) ∧ (∀ (fh fq : Nat → Nat → Nat → AV) (b : Bool), mapA fh fq (.bool b) = .bool b) ∧ (∀ (fh fq : Nat → Nat → Nat → AV) (n : Int), mapA fh fq (.int .i64 n) = .int .i64 n) := by
    refine ⟨?_, ?_, ?_, ?_⟩ <;> intros <;> simp [mapA, mapAs_eq]
  have h10 : BCall Try.prog 10 [] 100 [] (fun H1 n' v => H1 = [(102, ⟨2, true, [.agg [.hdr 600 0 0, .bool true]]⟩), (600, ⟨2, false, []⟩)] ∧ n' = 1100 ∧ v = .ptr 102 0 0) := f10 100
  have h16 : BCall Try.prog 16 [] 2000 [] (fun H1 n' v => H1 = [(2002, ⟨2, true, [.agg [.bool true, .hdr 2500 0 0]]⟩), (2500, ⟨2, false, []⟩)] ∧ n' = 3000 ∧ v = .ptr 2002 0 0) := f16 2000
  repeat refine AW.seq ?_
  refine AW.reg ?_
  have hF := True.intro
  repeat ((with_reducible show evIs _ (_ :: _) _ _); first | refine wQ ?_ | refine wF ?_ | refine wG ?_ | refine wT ?_ | refine wM ?_ | refine wS ?_ | refine wP ?_)
  clear hF
  repeat refine evDone ?_
  try (show AW _ _ _ _ _)
  have hF := True.intro
  refine wL (hA := h10) ?_
  clear hF
  rintro _ _ _ ⟨rfl, rfl, rfl⟩
  have hF := True.intro
  repeat ((with_reducible show evIs _ (_ :: _) _ _); first | refine wQ ?_ | refine wF ?_ | refine wG ?_ | refine wT ?_ | refine wM ?_ | refine wS ?_ | refine wP ?_)
  clear hF
  repeat refine evDone ?_
  try (show AW _ _ _ _ _)
  have hF := True.intro
  refine wL (hA := h16) ?_
  clear hF
  rintro _ _ _ ⟨rfl, rfl, rfl⟩
  have hF := True.intro
  repeat ((with_reducible show evIs _ (_ :: _) _ _); first | refine wQ ?_ | refine wF ?_ | refine wG ?_ | refine wT ?_ | refine wM ?_ | refine wS ?_ | refine wP ?_)
  clear hF
  repeat refine evDone ?_
  try (show AW _ _ _ _ _)
  repeat refine AW.seq ?_
  refine AW.reg ?_
  have hF := True.intro
  repeat ((with_reducible show evIs _ (_ :: _) _ _); first | refine wQ ?_ | refine wF ?_ | refine wG ?_ | refine wT ?_ | refine wM ?_ | refine wS ?_ | refine wP ?_)
  clear hF
  repeat refine evDone ?_
  try (show AW _ _ _ _ _)
  repeat refine AW.seq ?_
  refine AW.condF (by simp []) (by simp []) ?_
  refine AW.skip ?_
  show AW _ _ _ _ _
  repeat refine AW.seq ?_
  refine AW.reg ?_
  have hF := True.intro
  repeat ((with_reducible show evIs _ (_ :: _) _ _); first | refine wQ ?_ | refine wF ?_ | refine wG ?_ | refine wT ?_ | refine wM ?_ | refine wS ?_ | refine wP ?_)
  clear hF
  repeat refine evDone ?_
  try (show AW _ _ _ _ _)
  repeat refine AW.seq ?_
  refine AW.block ?_
  refine AW.loop (fun g : Nat × (List Item × List Item) × (Nat × Nat) × Nat => g.1 ≤ l.length ∧ Alike g.2.1.1 g.2.1.2 ∧ g.2.1.1.length ≤ g.1 ∧ Stand g.2.2.1.1 g.2.2.1.2 g.2.2.2) (fun g => mkS [(0, .sl .fro (l.map Act.av)), (3, .ptr 102 0 0), (4, .ptr 2002 0 0), (20, .sl .fro (l.map Act.av)), (21, .int .i64 l.length), (22, .int .i64 g.1)] [(102, ⟨2, true, [.agg [.hdr g.2.2.1.1 0 g.2.1.1.length, .bool true]]⟩), (g.2.2.1.1, ⟨2, false, g.2.1.1.map Item.av⟩), (2002, ⟨2, true, [.agg [.bool true, .hdr g.2.2.1.2 0 g.2.1.2.length]]⟩), (g.2.2.1.2, ⟨2, false, g.2.1.2.map Item.av⟩)] g.2.2.2) (fun g => l.length - g.1) (0, ([], []), (600, 2500), 3000) ⟨by simp, alike_nil, by simp, by simp [Stand]⟩ ?_ ?_
  · refine Fit.mk _ _ _ (by simp [conv2, newEmp, convs_refl, convs, conv]) (by simp [heapFit, newEmp, conv2s, conv2, convs_refl, convs, conv]) (by intro q hq; first | (simp at hq; done) | (simp at hq; omega) | (simp at hq; simp; omega))
  rintro ⟨i, ⟨xs, ws⟩, ⟨H, K⟩, n⟩ ⟨hi, hA, hxl, hS⟩
  dsimp only at hi hA hxl hS ⊢
  obtain ⟨s1, s2, s3, s4, s5, s6, s7, s8⟩ := hS
  have hwl := hA.len
  have hD : (102 = H) = False ∧ (102 = K) = False ∧ (H = 102) = False ∧ (H = 2002) = False ∧ (H = K) = False ∧ (2002 = H) = False ∧ (2002 = K) = False ∧ (K = 102) = False ∧ (K = H) = False ∧ (K = 2002) = False ∧ 102 < n ∧ (∀ qz, 102 < n + qz) ∧ (∀ qz, (102 = n + qz) = False) ∧ (∀ qz, (n + qz = 102) = False) ∧ (102 = n) = False ∧ (n = 102) = False ∧ H < n ∧ (∀ qz, H < n + qz) ∧ (∀ qz, (H = n + qz) = False) ∧ (∀ qz, (n + qz = H) = False) ∧ (H = n) = False ∧ (n = H) = False ∧ 2002 < n ∧ (∀ qz, 2002 < n + qz) ∧ (∀ qz, (2002 = n + qz) = False) ∧ (∀ qz, (n + qz = 2002) = False) ∧ (2002 = n) = False ∧ (n = 2002) = False ∧ K < n ∧ (∀ qz, K < n + qz) ∧ (∀ qz, (K = n + qz) = False) ∧ (∀ qz, (n + qz = K) = False) ∧ (K = n) = False ∧ (n = K) = False ∧ (∀ qz, (n + qz < n) = False) := ⟨eq_false (by omega), eq_false (by omega), eq_false (by omega), eq_false (by omega), eq_false (by omega), eq_false (by omega), eq_false (by omega), eq_false (by omega), eq_false (by omega), eq_false (by omega), by omega, fun qz => by omega, fun qz => eq_false (by omega), fun qz => eq_false (by omega), eq_false (by omega), eq_false (by omega), by omega, fun qz => by omega, fun qz => eq_false (by omega), fun qz => eq_false (by omega), eq_false (by omega), eq_false (by omega), by omega, fun qz => by omega, fun qz => eq_false (by omega), fun qz => eq_false (by omega), eq_false (by omega), eq_false (by omega), by omega, fun qz => by omega, fun qz => eq_false (by omega), fun qz => eq_false (by omega), eq_false (by omega), eq_false (by omega), fun qz => eq_false (by omega)⟩
  repeat refine AW.seq ?_
  refine AW.reg ?_
  by_cases hlt : i < l.length
  · obtain ⟨a, ha⟩ : ∃ a, l[i]? = some a := ⟨_, List.getElem?_eq_getElem hlt⟩
    have he := elem_map (f := Act.av) ha
    obtain ⟨ak, ad, ai⟩ := a
    simp only [Act.av] at he
    have hw1 : IntKind.i64.wrap ((i : Int) + 1) = (i : Int) + 1 := i64_in _ ⟨by omega, by omega⟩
    obtain ⟨A, hAA⟩ : ∃ A, A = n + 19 := ⟨_, rfl⟩
    obtain ⟨m, hmm⟩ : ∃ m, m = n + 100 := ⟨_, rfl⟩
    have hB : (102 = H) = False ∧ (102 = K) = False ∧ (102 = A) = False ∧ (H = 102) = False ∧ (H = 2002) = False ∧ (H = K) = False ∧ (H = A) = False ∧ (2002 = H) = False ∧ (2002 = K) = False ∧ (2002 = A) = False ∧ (K = 102) = False ∧ (K = H) = False ∧ (K = 2002) = False ∧ (K = A) = False ∧ (A = 102) = False ∧ (A = H) = False ∧ (A = 2002) = False ∧ (A = K) = False ∧ 102 < m ∧ (∀ qz, 102 < m + qz) ∧ (∀ qz, (102 = m + qz) = False) ∧ (∀ qz, (m + qz = 102) = False) ∧ (102 = m) = False ∧ (m = 102) = False ∧ H < m ∧ (∀ qz, H < m + qz) ∧ (∀ qz, (H = m + qz) = False) ∧ (∀ qz, (m + qz = H) = False) ∧ (H = m) = False ∧ (m = H) = False ∧ 2002 < m ∧ (∀ qz, 2002 < m + qz) ∧ (∀ qz, (2002 = m + qz) = False) ∧ (∀ qz, (m + qz = 2002) = False) ∧ (2002 = m) = False ∧ (m = 2002) = False ∧ K < m ∧ (∀ qz, K < m + qz) ∧ (∀ qz, (K = m + qz) = False) ∧ (∀ qz, (m + qz = K) = False) ∧ (K = m) = False ∧ (m = K) = False ∧ A < m ∧ (∀ qz, A < m + qz) ∧ (∀ qz, (A = m + qz) = False) ∧ (∀ qz, (m + qz = A) = False) ∧ (A = m) = False ∧ (m = A) = False ∧ (∀ qz, (m + qz < m) = False) := ⟨eq_false (by omega), eq_false (by omega), eq_false (by omega), eq_false (by omega), eq_false (by omega), eq_false (by omega), eq_false (by omega), eq_false (by omega), eq_false (by omega), eq_false (by omega), eq_false (by omega), eq_false (by omega), eq_false (by omega), eq_false (by omega), eq_false (by omega), eq_false (by omega), eq_false (by omega), eq_false (by omega), by omega, fun qz => by omega, fun qz => eq_false (by omega), fun qz => eq_false (by omega), eq_false (by omega), eq_false (by omega), by omega, fun qz => by omega, fun qz => eq_false (by omega), fun qz => eq_false (by omega), eq_false (by omega), eq_false (by omega), by omega, fun qz => by omega, fun qz => eq_false (by omega), fun qz => eq_false (by omega), eq_false (by omega), eq_false (by omega), by omega, fun qz => by omega, fun qz => eq_false (by omega), fun qz => eq_false (by omega), eq_false (by omega), eq_false (by omega), by omega, fun qz => by omega, fun qz => eq_false (by omega), fun qz => eq_false (by omega), eq_false (by omega), eq_false (by omega), fun qz => eq_false (by omega)⟩
    have hF := And.intro (hlt) (hD)
    repeat ((with_reducible show evIs _ (_ :: _) _ _); first | refine wQ ?_ | refine wF ?_ | refine wG ?_ | refine wT ?_ | refine wM ?_ | refine wS ?_ | refine wP ?_)
    clear hF
    repeat refine evDone ?_
    try (show AW _ _ _ _ _)
    repeat refine AW.seq ?_
    refine AW.condT (by simp []) (by simp []) ?_
    refine AW.skip ?_
    show AW _ _ _ _ _
    refine AW.seq (AW.block ?_)
    repeat refine AW.seq ?_
    refine AW.reg ?_
    have hF := And.intro (hlt) (And.intro (he) (hD))
    repeat ((with_reducible show evIs _ (_ :: _) _ _); first | refine wQ ?_ | refine wF ?_ | refine wG ?_ | refine wT ?_ | refine wM ?_ | refine wS ?_ | refine wP ?_)
    clear hF
    repeat refine evDone ?_
    try (show AW _ _ _ _ _)
    repeat refine AW.seq ?_
    refine AW.reg ?_
    have hF := hD
    repeat ((with_reducible show evIs _ (_ :: _) _ _); first | refine wQ ?_ | refine wF ?_ | refine wG ?_ | refine wT ?_ | refine wM ?_ | refine wS ?_ | refine wP ?_)
    clear hF
    repeat refine evDone ?_
    try (show AW _ _ _ _ _)
    rw [← hAA]
    have hA1 : A < n + 100 ∧ H < n + 100 ∧ K < n + 100 ∧ 102 < n + 100 ∧ 2002 < n + 100 ∧ m = n + 100 := ⟨by omega, by omega, by omega, by omega, by omega, hmm⟩
    refine AW.fit (st' := mkS [(0, .sl .fro (l.map Act.av)), (3, .ptr 102 0 0), (4, .ptr 2002 0 0), (20, .sl .fro (l.map Act.av)), (21, .int .i64 l.length), (22, .int .i64 i), (6, .ptr A 0 0), (7, .bool true)] [(102, ⟨2, true, [.agg [.hdr H 0 xs.length, .bool true]]⟩), (H, ⟨2, false, xs.map Item.av⟩), (2002, ⟨2, true, [.agg [.bool true, .hdr K 0 ws.length]]⟩), (K, ⟨2, false, ws.map Item.av⟩), (A, ⟨3, true, [.agg [.int .i64 ak, .int .i64 ad, .int .i64 ai]]⟩)] (m)) ?_ ?_
    · refine Fit.mk _ _ _ (by simp [hD, hB, hA1, conv2, newEmp, convs_refl, convs, conv]) (by simp [hD, hB, hA1, heapFit, newEmp, conv2s, conv2, convs_refl, convs, conv]) (by intro q hq; first | (simp at hq; done) | (simp at hq; omega) | (simp at hq; simp; omega))
    rw [mkS_eq]
    have hcs0 : (xs.map Item.av).take xs.length = xs.map Item.av ∧ (xs.map Item.av).map clC = xs.map Item.av ∧ (ws.map Item.av).take ws.length = ws.map Item.av ∧ (ws.map Item.av).map clC = ws.map Item.av := ⟨List.take_of_length_le (by simp), items_cl xs, List.take_of_length_le (by simp), items_cl ws⟩
    refine AW.seq ?_
    repeat refine AW.seq ?_
    refine AW.reg ?_
    have hF := hB
    repeat ((with_reducible show evIs _ (_ :: _) _ _); first | refine wQ ?_ | refine wF ?_ | refine wG ?_ | refine wT ?_ | refine wM ?_ | refine wS ?_ | refine wP ?_)
    clear hF
    repeat refine evDone ?_
    try (show AW _ _ _ _ _)
    refine AW.endE (fun g : (List Item × List Item) × (Nat × Nat) × Nat => mkS [(0, .sl .fro (l.map Act.av)), (3, .ptr 102 0 0), (4, .ptr 2002 0 0), (20, .sl .fro (l.map Act.av)), (21, .int .i64 l.length), (22, .int .i64 i), (7, .bool true)] [(102, ⟨2, true, [.agg [.hdr g.2.1.1 0 g.1.1.length, .bool true]]⟩), (g.2.1.1, ⟨2, false, g.1.1.map Item.av⟩), (2002, ⟨2, true, [.agg [.bool true, .hdr g.2.1.2 0 g.1.2.length]]⟩), (g.2.1.2, ⟨2, false, g.1.2.map Item.av⟩)] g.2.2) (fun g => Alike g.1.1 g.1.2 ∧ g.1.1.length ≤ i + 1 ∧ Stand g.2.1.1 g.2.1.2 g.2.2) ?_ ?_
    · refine AW.block ?_
      repeat refine AW.seq ?_
      refine AW.reg ?_
      by_cases hk0 : ak = 0
      · have hk0' : (ak == 0) = true := by simp [hk0]
        have hF := And.intro (hk0') (hB)
        repeat ((with_reducible show evIs _ (_ :: _) _ _); first | refine wQ ?_ | refine wF ?_ | refine wG ?_ | refine wT ?_ | refine wM ?_ | refine wS ?_ | refine wP ?_)
        clear hF
        repeat refine evDone ?_
        try (show AW _ _ _ _ _)
        repeat refine AW.seq ?_
        refine AW.condT (by simp [hk0']) (by simp [hk0']) ?_
        have hal := alike_add hA ⟨ad, ai⟩
        have h17 := f17 m 102 H (by omega) (by omega) (by omega) xs ⟨ad, ai⟩ (by omega)
        have h18 := f18 (m + 2000) 2002 K (by omega) (by omega) (by omega) ws ⟨ad, ai⟩ (by omega)
        rw [hal.2.1] at h17
        obtain ⟨xs', hx'⟩ : ∃ xs', xs' = (addF xs ⟨ad, ai⟩).1 := ⟨_, rfl⟩
        obtain ⟨ws', hw'⟩ : ∃ ws', ws' = (addR ws ⟨ad, ai⟩).1 := ⟨_, rfl⟩
        rw [← hx', ← hw'] at hal
        rw [← hx'] at h17
        rw [← hw'] at h18
        generalize (addR ws ⟨ad, ai⟩).2 = e at *
        simp only [Qs, box, Ws, Item.av] at h17 h18
        have hal3 := hal.2.2
        repeat refine AW.seq ?_
        refine AW.draw ?_
        have hF := hB
        repeat (first | refine wD1 ?_ | refine wD2 ?_ | refine wE1 ?_ | refine wE2 ?_ | (refine wE3 ?_; intro _) | (refine wE4 ?_; intro _) | refine wN ?_ | ((with_reducible show evIs _ (_ :: _) _ _); first | refine wQ ?_ | refine wF ?_ | refine wG ?_ | refine wT ?_ | refine wM ?_ | refine wS ?_ | refine wP ?_ | refine wJ ?_ | refine wX ?_ | refine wY ?_ | refine wZ ?_))
        clear hF
        repeat refine evDone ?_
        try (show AW _ _ _ _ _)
        have hF := hB
        refine wL (hA := h17) ?_
        clear hF
        rintro _ _ _ ⟨H', a1, a2, a3, rfl, rfl, rfl⟩
        simp only [Qs, box]
        have hC : (102 = H') = False ∧ (102 = K) = False ∧ (102 = A) = False ∧ (H' = 102) = False ∧ (H' = 2002) = False ∧ (H' = K) = False ∧ (H' = A) = False ∧ (2002 = H') = False ∧ (2002 = K) = False ∧ (2002 = A) = False ∧ (K = 102) = False ∧ (K = H') = False ∧ (K = 2002) = False ∧ (K = A) = False ∧ (A = 102) = False ∧ (A = H') = False ∧ (A = 2002) = False ∧ (A = K) = False ∧ 102 < m + 2000 ∧ (∀ qz, 102 < m + 2000 + qz) ∧ (∀ qz, (102 = m + 2000 + qz) = False) ∧ (∀ qz, (m + 2000 + qz = 102) = False) ∧ (102 = m + 2000) = False ∧ (m + 2000 = 102) = False ∧ H' < m + 2000 ∧ (∀ qz, H' < m + 2000 + qz) ∧ (∀ qz, (H' = m + 2000 + qz) = False) ∧ (∀ qz, (m + 2000 + qz = H') = False) ∧ (H' = m + 2000) = False ∧ (m + 2000 = H') = False ∧ 2002 < m + 2000 ∧ (∀ qz, 2002 < m + 2000 + qz) ∧ (∀ qz, (2002 = m + 2000 + qz) = False) ∧ (∀ qz, (m + 2000 + qz = 2002) = False) ∧ (2002 = m + 2000) = False ∧ (m + 2000 = 2002) = False ∧ K < m + 2000 ∧ (∀ qz, K < m + 2000 + qz) ∧ (∀ qz, (K = m + 2000 + qz) = False) ∧ (∀ qz, (m + 2000 + qz = K) = False) ∧ (K = m + 2000) = False ∧ (m + 2000 = K) = False ∧ A < m + 2000 ∧ (∀ qz, A < m + 2000 + qz) ∧ (∀ qz, (A = m + 2000 + qz) = False) ∧ (∀ qz, (m + 2000 + qz = A) = False) ∧ (A = m + 2000) = False ∧ (m + 2000 = A) = False ∧ (∀ qz, (m + 2000 + qz < m + 2000) = False) := ⟨eq_false (by omega), eq_false (by omega), eq_false (by omega), eq_false (by omega), eq_false (by omega), eq_false (by omega), eq_false (by omega), eq_false (by omega), eq_false (by omega), eq_false (by omega), eq_false (by omega), eq_false (by omega), eq_false (by omega), eq_false (by omega), eq_false (by omega), eq_false (by omega), eq_false (by omega), eq_false (by omega), by omega, fun qz => by omega, fun qz => eq_false (by omega), fun qz => eq_false (by omega), eq_false (by omega), eq_false (by omega), by omega, fun qz => by omega, fun qz => eq_false (by omega), fun qz => eq_false (by omega), eq_false (by omega), eq_false (by omega), by omega, fun qz => by omega, fun qz => eq_false (by omega), fun qz => eq_false (by omega), eq_false (by omega), eq_false (by omega), by omega, fun qz => by omega, fun qz => eq_false (by omega), fun qz => eq_false (by omega), eq_false (by omega), eq_false (by omega), by omega, fun qz => by omega, fun qz => eq_false (by omega), fun qz => eq_false (by omega), eq_false (by omega), eq_false (by omega), fun qz => eq_false (by omega)⟩
        have hF := And.intro (hB) (hC)
        repeat (first | refine wD1 ?_ | refine wD2 ?_ | refine wE1 ?_ | refine wE2 ?_ | (refine wE3 ?_; intro _) | (refine wE4 ?_; intro _) | refine wN ?_ | ((with_reducible show evIs _ (_ :: _) _ _); first | refine wQ ?_ | refine wF ?_ | refine wG ?_ | refine wT ?_ | refine wM ?_ | refine wS ?_ | refine wP ?_ | refine wJ ?_ | refine wX ?_ | refine wY ?_ | refine wZ ?_))
        clear hF
        repeat refine evDone ?_
        try (show AW _ _ _ _ _)
        have hF := And.intro (hB) (hC)
        refine wL (hA := h18) ?_
        clear hF
        rintro _ n2 _ ⟨K', b1, b2, b3, rfl, rfl⟩
        simp only [Ws]
        obtain ⟨nn, hnn⟩ : ∃ nn, nn = m + 3000 + n2 := ⟨_, rfl⟩
        have hD : (102 = H') = False ∧ (102 = K') = False ∧ (102 = A) = False ∧ (H' = 102) = False ∧ (H' = 2002) = False ∧ (H' = K') = False ∧ (H' = A) = False ∧ (2002 = H') = False ∧ (2002 = K') = False ∧ (2002 = A) = False ∧ (K' = 102) = False ∧ (K' = H') = False ∧ (K' = 2002) = False ∧ (K' = A) = False ∧ (A = 102) = False ∧ (A = H') = False ∧ (A = 2002) = False ∧ (A = K') = False ∧ 102 < nn ∧ (∀ qz, 102 < nn + qz) ∧ (∀ qz, (102 = nn + qz) = False) ∧ (∀ qz, (nn + qz = 102) = False) ∧ (102 = nn) = False ∧ (nn = 102) = False ∧ H' < nn ∧ (∀ qz, H' < nn + qz) ∧ (∀ qz, (H' = nn + qz) = False) ∧ (∀ qz, (nn + qz = H') = False) ∧ (H' = nn) = False ∧ (nn = H') = False ∧ 2002 < nn ∧ (∀ qz, 2002 < nn + qz) ∧ (∀ qz, (2002 = nn + qz) = False) ∧ (∀ qz, (nn + qz = 2002) = False) ∧ (2002 = nn) = False ∧ (nn = 2002) = False ∧ K' < nn ∧ (∀ qz, K' < nn + qz) ∧ (∀ qz, (K' = nn + qz) = False) ∧ (∀ qz, (nn + qz = K') = False) ∧ (K' = nn) = False ∧ (nn = K') = False ∧ A < nn ∧ (∀ qz, A < nn + qz) ∧ (∀ qz, (A = nn + qz) = False) ∧ (∀ qz, (nn + qz = A) = False) ∧ (A = nn) = False ∧ (nn = A) = False ∧ (∀ qz, (nn + qz < nn) = False) := ⟨eq_false (by omega), eq_false (by omega), eq_false (by omega), eq_false (by omega), eq_false (by omega), eq_false (by omega), eq_false (by omega), eq_false (by omega), eq_false (by omega), eq_false (by omega), eq_false (by omega), eq_false (by omega), eq_false (by omega), eq_false (by omega), eq_false (by omega), eq_false (by omega), eq_false (by omega), eq_false (by omega), by omega, fun qz => by omega, fun qz => eq_false (by omega), fun qz => eq_false (by omega), eq_false (by omega), eq_false (by omega), by omega, fun qz => by omega, fun qz => eq_false (by omega), fun qz => eq_false (by omega), eq_false (by omega), eq_false (by omega), by omega, fun qz => by omega, fun qz => eq_false (by omega), fun qz => eq_false (by omega), eq_false (by omega), eq_false (by omega), by omega, fun qz => by omega, fun qz => eq_false (by omega), fun qz => eq_false (by omega), eq_false (by omega), eq_false (by omega), by omega, fun qz => by omega, fun qz => eq_false (by omega), fun qz => eq_false (by omega), eq_false (by omega), eq_false (by omega), fun qz => eq_false (by omega)⟩
        have hF := And.intro (hB) (And.intro (hC) (hD))
        repeat (first | refine wD1 ?_ | refine wD2 ?_ | refine wE1 ?_ | refine wE2 ?_ | (refine wE3 ?_; intro _) | (refine wE4 ?_; intro _) | refine wN ?_ | ((with_reducible show evIs _ (_ :: _) _ _); first | refine wQ ?_ | refine wF ?_ | refine wG ?_ | refine wT ?_ | refine wM ?_ | refine wS ?_ | refine wP ?_ | refine wJ ?_ | refine wX ?_ | refine wY ?_ | refine wZ ?_))
        clear hF
        repeat refine evDone ?_
        try (show AW _ _ _ _ _)
        refine ⟨rfl, ((xs', ws'), (H', K'), nn), ⟨hal.1, by dsimp only; omega, ⟨by dsimp only; omega, by dsimp only; omega, by dsimp only; omega, by dsimp only; omega, by dsimp only; omega, by dsimp only; omega, by dsimp only; omega, by dsimp only; omega⟩⟩, ?_⟩
        refine Fit.mk _ _ _ (by simp [hB, hC, hD, conv2, newEmp, convs_refl, convs, conv]) (by simp [hB, hC, hD, heapFit, newEmp, conv2s, conv2, convs_refl, convs, conv]) (by intro q hq; first | (simp at hq; done) | (simp at hq; omega) | (simp at hq; simp; omega))
      have hk0' : (ak == 0) = false := by simp [hk0]
      have hF := And.intro (hk0) (And.intro (hk0') (hB))
      repeat (first | refine wD1 ?_ | refine wD2 ?_ | refine wE1 ?_ | refine wE2 ?_ | (refine wE3 ?_; intro _) | (refine wE4 ?_; intro _) | refine wN ?_ | ((with_reducible show evIs _ (_ :: _) _ _); first | refine wQ ?_ | refine wF ?_ | refine wG ?_ | refine wT ?_ | refine wM ?_ | refine wS ?_ | refine wP ?_ | refine wJ ?_ | refine wX ?_ | refine wY ?_ | refine wZ ?_))
      clear hF
      repeat refine evDone ?_
      try (show AW _ _ _ _ _)
      repeat refine AW.seq ?_
      refine AW.condF (by simp [hk0, hk0']) (by simp [hk0, hk0']) ?_
      repeat refine AW.seq ?_
      refine AW.reg ?_
      by_cases hk1 : ak = 1
      · have hk1' : (ak == 1) = true := by simp [hk1]
        have hF := And.intro (hk1') (hB)
        repeat ((with_reducible show evIs _ (_ :: _) _ _); first | refine wQ ?_ | refine wF ?_ | refine wG ?_ | refine wT ?_ | refine wM ?_ | refine wS ?_ | refine wP ?_)
        clear hF
        repeat refine evDone ?_
        try (show AW _ _ _ _ _)
        repeat refine AW.seq ?_
        refine AW.condT (by simp [hk1']) (by simp [hk1']) ?_
        have hal := alike_cancel hA ai
        have h12 := f12 m 102 H (by omega) (by omega) (by omega) xs ai (by omega)
        have h19 := f19 (m + 4000) 2002 K (by omega) (by omega) (by omega) ws ai (by omega)
        rw [hal.2.1] at h12
        obtain ⟨xs', hx'⟩ : ∃ xs', xs' = (cancelF xs ai).1 := ⟨_, rfl⟩
        obtain ⟨ws', hw'⟩ : ∃ ws', ws' = cancelR ws ai := ⟨_, rfl⟩
        rw [← hx', ← hw'] at hal
        rw [← hx', ← hw'] at h12
        rw [← hw'] at h19
        generalize decide (ws'.length < ws.length) = e at *
        simp only [Qs, box, Ws] at h12 h19
        have hal3 := hal.2.2
        repeat refine AW.seq ?_
        refine AW.draw ?_
        have hF := hB
        repeat (first | refine wD1 ?_ | refine wD2 ?_ | refine wE1 ?_ | refine wE2 ?_ | (refine wE3 ?_; intro _) | (refine wE4 ?_; intro _) | refine wN ?_ | ((with_reducible show evIs _ (_ :: _) _ _); first | refine wQ ?_ | refine wF ?_ | refine wG ?_ | refine wT ?_ | refine wM ?_ | refine wS ?_ | refine wP ?_ | refine wJ ?_ | refine wX ?_ | refine wY ?_ | refine wZ ?_))
        clear hF
        repeat refine evDone ?_
        try (show AW _ _ _ _ _)
        have hF := hB
        refine wL (hA := h12) ?_
        clear hF
        rintro _ _ _ ⟨rfl, rfl, rfl⟩
        have hF := hB
        repeat (first | refine wD1 ?_ | refine wD2 ?_ | refine wE1 ?_ | refine wE2 ?_ | (refine wE3 ?_; intro _) | (refine wE4 ?_; intro _) | refine wN ?_ | ((with_reducible show evIs _ (_ :: _) _ _); first | refine wQ ?_ | refine wF ?_ | refine wG ?_ | refine wT ?_ | refine wM ?_ | refine wS ?_ | refine wP ?_ | refine wJ ?_ | refine wX ?_ | refine wY ?_ | refine wZ ?_))
        clear hF
        repeat refine evDone ?_
        try (show AW _ _ _ _ _)
        have hF := hB
        refine wL (hA := h19) ?_
        clear hF
        rintro _ n2 _ ⟨K', b1, b2, b3, rfl, rfl⟩
        simp only [Ws]
        obtain ⟨nn, hnn⟩ : ∃ nn, nn = m + 5000 + n2 := ⟨_, rfl⟩
        have hD : (102 = H) = False ∧ (102 = K') = False ∧ (102 = A) = False ∧ (H = 102) = False ∧ (H = 2002) = False ∧ (H = K') = False ∧ (H = A) = False ∧ (2002 = H) = False ∧ (2002 = K') = False ∧ (2002 = A) = False ∧ (K' = 102) = False ∧ (K' = H) = False ∧ (K' = 2002) = False ∧ (K' = A) = False ∧ (A = 102) = False ∧ (A = H) = False ∧ (A = 2002) = False ∧ (A = K') = False ∧ 102 < nn ∧ (∀ qz, 102 < nn + qz) ∧ (∀ qz, (102 = nn + qz) = False) ∧ (∀ qz, (nn + qz = 102) = False) ∧ (102 = nn) = False ∧ (nn = 102) = False ∧ H < nn ∧ (∀ qz, H < nn + qz) ∧ (∀ qz, (H = nn + qz) = False) ∧ (∀ qz, (nn + qz = H) = False) ∧ (H = nn) = False ∧ (nn = H) = False ∧ 2002 < nn ∧ (∀ qz, 2002 < nn + qz) ∧ (∀ qz, (2002 = nn + qz) = False) ∧ (∀ qz, (nn + qz = 2002) = False) ∧ (2002 = nn) = False ∧ (nn = 2002) = False ∧ K' < nn ∧ (∀ qz, K' < nn + qz) ∧ (∀ qz, (K' = nn + qz) = False) ∧ (∀ qz, (nn + qz = K') = False) ∧ (K' = nn) = False ∧ (nn = K') = False ∧ A < nn ∧ (∀ qz, A < nn + qz) ∧ (∀ qz, (A = nn + qz) = False) ∧ (∀ qz, (nn + qz = A) = False) ∧ (A = nn) = False ∧ (nn = A) = False ∧ (∀ qz, (nn + qz < nn) = False) := ⟨eq_false (by omega), eq_false (by omega), eq_false (by omega), eq_false (by omega), eq_false (by omega), eq_false (by omega), eq_false (by omega), eq_false (by omega), eq_false (by omega), eq_false (by omega), eq_false (by omega), eq_false (by omega), eq_false (by omega), eq_false (by omega), eq_false (by omega), eq_false (by omega), eq_false (by omega), eq_false (by omega), by omega, fun qz => by omega, fun qz => eq_false (by omega), fun qz => eq_false (by omega), eq_false (by omega), eq_false (by omega), by omega, fun qz => by omega, fun qz => eq_false (by omega), fun qz => eq_false (by omega), eq_false (by omega), eq_false (by omega), by omega, fun qz => by omega, fun qz => eq_false (by omega), fun qz => eq_false (by omega), eq_false (by omega), eq_false (by omega), by omega, fun qz => by omega, fun qz => eq_false (by omega), fun qz => eq_false (by omega), eq_false (by omega), eq_false (by omega), by omega, fun qz => by omega, fun qz => eq_false (by omega), fun qz => eq_false (by omega), eq_false (by omega), eq_false (by omega), fun qz => eq_false (by omega)⟩
        have hF := And.intro (hB) (hD)
        repeat (first | refine wD1 ?_ | refine wD2 ?_ | refine wE1 ?_ | refine wE2 ?_ | (refine wE3 ?_; intro _) | (refine wE4 ?_; intro _) | refine wN ?_ | ((with_reducible show evIs _ (_ :: _) _ _); first | refine wQ ?_ | refine wF ?_ | refine wG ?_ | refine wT ?_ | refine wM ?_ | refine wS ?_ | refine wP ?_ | refine wJ ?_ | refine wX ?_ | refine wY ?_ | refine wZ ?_))
        clear hF
        repeat refine evDone ?_
        try (show AW _ _ _ _ _)
        refine ⟨rfl, ((xs', ws'), (H, K'), nn), ⟨hal.1, by dsimp only; omega, ⟨by dsimp only; omega, by dsimp only; omega, by dsimp only; omega, by dsimp only; omega, by dsimp only; omega, by dsimp only; omega, by dsimp only; omega, by dsimp only; omega⟩⟩, ?_⟩
        refine Fit.mk _ _ _ (by simp [hB, hD, conv2, newEmp, convs_refl, convs, conv]) (by simp [hB, hD, heapFit, newEmp, conv2s, conv2, convs_refl, convs, conv]) (by intro q hq; first | (simp at hq; done) | (simp at hq; omega) | (simp at hq; simp; omega))
      have hk1' : (ak == 1) = false := by simp [hk1]
      have hF := And.intro (hk1) (And.intro (hk1') (hB))
      repeat (first | refine wD1 ?_ | refine wD2 ?_ | refine wE1 ?_ | refine wE2 ?_ | (refine wE3 ?_; intro _) | (refine wE4 ?_; intro _) | refine wN ?_ | ((with_reducible show evIs _ (_ :: _) _ _); first | refine wQ ?_ | refine wF ?_ | refine wG ?_ | refine wT ?_ | refine wM ?_ | refine wS ?_ | refine wP ?_ | refine wJ ?_ | refine wX ?_ | refine wY ?_ | refine wZ ?_))
      clear hF
      repeat refine evDone ?_
      try (show AW _ _ _ _ _)
      repeat refine AW.seq ?_
      refine AW.condF (by simp [hk1, hk1']) (by simp [hk1, hk1']) ?_
      repeat refine AW.seq ?_
      refine AW.reg ?_
      by_cases hk2 : ak = 2
      · have hk2' : (ak == 2) = true := by simp [hk2]
        have hF := And.intro (hk2') (hB)
        repeat ((with_reducible show evIs _ (_ :: _) _ _); first | refine wQ ?_ | refine wF ?_ | refine wG ?_ | refine wT ?_ | refine wM ?_ | refine wS ?_ | refine wP ?_)
        clear hF
        repeat refine evDone ?_
        try (show AW _ _ _ _ _)
        repeat refine AW.seq ?_
        refine AW.condT (by simp [hk2']) (by simp [hk2']) ?_
        have hal := alike_pop hA ad
        have h13 := f13 m 102 H (by omega) (by omega) (by omega) xs ad (by omega)
        obtain ⟨xs', hx'⟩ : ∃ xs', xs' = (popF (xs.length + 1) xs ad).2 := ⟨_, rfl⟩
        obtain ⟨ws', hw'⟩ : ∃ ws', ws' = ws.filter (lateP ad) := ⟨_, rfl⟩
        obtain ⟨zs, hz'⟩ : ∃ zs, zs = ws.filter (dueP ad) := ⟨_, rfl⟩
        have hzl : zs.length ≤ 200 := by
          have := List.length_filter_le (dueP ad) ws
          rw [← hz'] at this
          omega
        have h20 := f20 zs hzl
        rw [← hx', ← hw', ← hz'] at hal
        rw [← hx', hal.1] at h13
        simp only [Qs, box, items] at h13 h20
        have hal3 := hal.2.2
        have hcs : (zs.map Item.av).take zs.length = zs.map Item.av ∧ (zs.map Item.av).map clC = zs.map Item.av := ⟨List.take_of_length_le (by simp), items_cl zs⟩
        repeat refine AW.seq ?_
        refine AW.draw ?_
        have hF := hB
        repeat (first | refine wD1 ?_ | refine wD2 ?_ | refine wE1 ?_ | refine wE2 ?_ | (refine wE3 ?_; intro _) | (refine wE4 ?_; intro _) | refine wN ?_ | ((with_reducible show evIs _ (_ :: _) _ _); first | refine wQ ?_ | refine wF ?_ | refine wG ?_ | refine wT ?_ | refine wM ?_ | refine wS ?_ | refine wP ?_ | refine wJ ?_ | refine wX ?_ | refine wY ?_ | refine wZ ?_))
        clear hF
        repeat refine evDone ?_
        try (show AW _ _ _ _ _)
        have hF := hB
        refine wL (hA := h13) ?_
        clear hF
        rintro _ n1 _ ⟨r, a1, a2, rfl, rfl⟩
        have h21 := f21 (m + n1) 2002 K (by omega) (by omega) (by omega) ws ad (by omega)
        rw [← hw', ← hz'] at h21
        simp only [Ws] at h21
        have hC : (102 = H) = False ∧ (102 = K) = False ∧ (102 = A) = False ∧ (102 = r) = False ∧ (H = 102) = False ∧ (H = 2002) = False ∧ (H = K) = False ∧ (H = A) = False ∧ (H = r) = False ∧ (2002 = H) = False ∧ (2002 = K) = False ∧ (2002 = A) = False ∧ (2002 = r) = False ∧ (K = 102) = False ∧ (K = H) = False ∧ (K = 2002) = False ∧ (K = A) = False ∧ (K = r) = False ∧ (A = 102) = False ∧ (A = H) = False ∧ (A = 2002) = False ∧ (A = K) = False ∧ (A = r) = False ∧ (r = 102) = False ∧ (r = H) = False ∧ (r = 2002) = False ∧ (r = K) = False ∧ (r = A) = False ∧ 102 < m + n1 ∧ (∀ qz, 102 < m + n1 + qz) ∧ (∀ qz, (102 = m + n1 + qz) = False) ∧ (∀ qz, (m + n1 + qz = 102) = False) ∧ (102 = m + n1) = False ∧ (m + n1 = 102) = False ∧ H < m + n1 ∧ (∀ qz, H < m + n1 + qz) ∧ (∀ qz, (H = m + n1 + qz) = False) ∧ (∀ qz, (m + n1 + qz = H) = False) ∧ (H = m + n1) = False ∧ (m + n1 = H) = False ∧ 2002 < m + n1 ∧ (∀ qz, 2002 < m + n1 + qz) ∧ (∀ qz, (2002 = m + n1 + qz) = False) ∧ (∀ qz, (m + n1 + qz = 2002) = False) ∧ (2002 = m + n1) = False ∧ (m + n1 = 2002) = False ∧ K < m + n1 ∧ (∀ qz, K < m + n1 + qz) ∧ (∀ qz, (K = m + n1 + qz) = False) ∧ (∀ qz, (m + n1 + qz = K) = False) ∧ (K = m + n1) = False ∧ (m + n1 = K) = False ∧ A < m + n1 ∧ (∀ qz, A < m + n1 + qz) ∧ (∀ qz, (A = m + n1 + qz) = False) ∧ (∀ qz, (m + n1 + qz = A) = False) ∧ (A = m + n1) = False ∧ (m + n1 = A) = False ∧ r < m + n1 ∧ (∀ qz, r < m + n1 + qz) ∧ (∀ qz, (r = m + n1 + qz) = False) ∧ (∀ qz, (m + n1 + qz = r) = False) ∧ (r = m + n1) = False ∧ (m + n1 = r) = False ∧ (∀ qz, (m + n1 + qz < m + n1) = False) := ⟨eq_false (by omega), eq_false (by omega), eq_false (by omega), eq_false (by omega), eq_false (by omega), eq_false (by omega), eq_false (by omega), eq_false (by omega), eq_false (by omega), eq_false (by omega), eq_false (by omega), eq_false (by omega), eq_false (by omega), eq_false (by omega), eq_false (by omega), eq_false (by omega), eq_false (by omega), eq_false (by omega), eq_false (by omega), eq_false (by omega), eq_false (by omega), eq_false (by omega), eq_false (by omega), eq_false (by omega), eq_false (by omega), eq_false (by omega), eq_false (by omega), eq_false (by omega), by omega, fun qz => by omega, fun qz => eq_false (by omega), fun qz => eq_false (by omega), eq_false (by omega), eq_false (by omega), by omega, fun qz => by omega, fun qz => eq_false (by omega), fun qz => eq_false (by omega), eq_false (by omega), eq_false (by omega), by omega, fun qz => by omega, fun qz => eq_false (by omega), fun qz => eq_false (by omega), eq_false (by omega), eq_false (by omega), by omega, fun qz => by omega, fun qz => eq_false (by omega), fun qz => eq_false (by omega), eq_false (by omega), eq_false (by omega), by omega, fun qz => by omega, fun qz => eq_false (by omega), fun qz => eq_false (by omega), eq_false (by omega), eq_false (by omega), by omega, fun qz => by omega, fun qz => eq_false (by omega), fun qz => eq_false (by omega), eq_false (by omega), eq_false (by omega), fun qz => eq_false (by omega)⟩
        have hF := And.intro (hB) (hC)
        repeat (first | refine wD1 ?_ | refine wD2 ?_ | refine wE1 ?_ | refine wE2 ?_ | (refine wE3 ?_; intro _) | (refine wE4 ?_; intro _) | refine wN ?_ | ((with_reducible show evIs _ (_ :: _) _ _); first | refine wQ ?_ | refine wF ?_ | refine wG ?_ | refine wT ?_ | refine wM ?_ | refine wS ?_ | refine wP ?_ | refine wJ ?_ | refine wX ?_ | refine wY ?_ | refine wZ ?_))
        clear hF
        repeat refine evDone ?_
        try (show AW _ _ _ _ _)
        have hF := And.intro (hB) (hC)
        refine wL (hA := h21) ?_
        clear hF
        rintro _ n2 _ ⟨s, K', b1, b2, b3, b4, b5, rfl, rfl⟩
        obtain ⟨nn, hnn⟩ : ∃ nn, nn = m + n1 + n2 := ⟨_, rfl⟩
        have hD : (102 = H) = False ∧ (102 = K') = False ∧ (102 = A) = False ∧ (102 = r) = False ∧ (102 = s) = False ∧ (H = 102) = False ∧ (H = 2002) = False ∧ (H = K') = False ∧ (H = A) = False ∧ (H = r) = False ∧ (H = s) = False ∧ (2002 = H) = False ∧ (2002 = K') = False ∧ (2002 = A) = False ∧ (2002 = r) = False ∧ (2002 = s) = False ∧ (K' = 102) = False ∧ (K' = H) = False ∧ (K' = 2002) = False ∧ (K' = A) = False ∧ (K' = r) = False ∧ (K' = s) = False ∧ (A = 102) = False ∧ (A = H) = False ∧ (A = 2002) = False ∧ (A = K') = False ∧ (A = r) = False ∧ (A = s) = False ∧ (r = 102) = False ∧ (r = H) = False ∧ (r = 2002) = False ∧ (r = K') = False ∧ (r = A) = False ∧ (r = s) = False ∧ (s = 102) = False ∧ (s = H) = False ∧ (s = 2002) = False ∧ (s = K') = False ∧ (s = A) = False ∧ (s = r) = False ∧ 102 < nn ∧ (∀ qz, 102 < nn + qz) ∧ (∀ qz, (102 = nn + qz) = False) ∧ (∀ qz, (nn + qz = 102) = False) ∧ (102 = nn) = False ∧ (nn = 102) = False ∧ H < nn ∧ (∀ qz, H < nn + qz) ∧ (∀ qz, (H = nn + qz) = False) ∧ (∀ qz, (nn + qz = H) = False) ∧ (H = nn) = False ∧ (nn = H) = False ∧ 2002 < nn ∧ (∀ qz, 2002 < nn + qz) ∧ (∀ qz, (2002 = nn + qz) = False) ∧ (∀ qz, (nn + qz = 2002) = False) ∧ (2002 = nn) = False ∧ (nn = 2002) = False ∧ K' < nn ∧ (∀ qz, K' < nn + qz) ∧ (∀ qz, (K' = nn + qz) = False) ∧ (∀ qz, (nn + qz = K') = False) ∧ (K' = nn) = False ∧ (nn = K') = False ∧ A < nn ∧ (∀ qz, A < nn + qz) ∧ (∀ qz, (A = nn + qz) = False) ∧ (∀ qz, (nn + qz = A) = False) ∧ (A = nn) = False ∧ (nn = A) = False ∧ r < nn ∧ (∀ qz, r < nn + qz) ∧ (∀ qz, (r = nn + qz) = False) ∧ (∀ qz, (nn + qz = r) = False) ∧ (r = nn) = False ∧ (nn = r) = False ∧ s < nn ∧ (∀ qz, s < nn + qz) ∧ (∀ qz, (s = nn + qz) = False) ∧ (∀ qz, (nn + qz = s) = False) ∧ (s = nn) = False ∧ (nn = s) = False ∧ (∀ qz, (nn + qz < nn) = False) := ⟨eq_false (by omega), eq_false (by omega), eq_false (by omega), eq_false (by omega), eq_false (by omega), eq_false (by omega), eq_false (by omega), eq_false (by omega), eq_false (by omega), eq_false (by omega), eq_false (by omega), eq_false (by omega), eq_false (by omega), eq_false (by omega), eq_false (by omega), eq_false (by omega), eq_false (by omega), eq_false (by omega), eq_false (by omega), eq_false (by omega), eq_false (by omega), eq_false (by omega), eq_false (by omega), eq_false (by omega), eq_false (by omega), eq_false (by omega), eq_false (by omega), eq_false (by omega), eq_false (by omega), eq_false (by omega), eq_false (by omega), eq_false (by omega), eq_false (by omega), eq_false (by omega), eq_false (by omega), eq_false (by omega), eq_false (by omega), eq_false (by omega), eq_false (by omega), eq_false (by omega), by omega, fun qz => by omega, fun qz => eq_false (by omega), fun qz => eq_false (by omega), eq_false (by omega), eq_false (by omega), by omega, fun qz => by omega, fun qz => eq_false (by omega), fun qz => eq_false (by omega), eq_false (by omega), eq_false (by omega), by omega, fun qz => by omega, fun qz => eq_false (by omega), fun qz => eq_false (by omega), eq_false (by omega), eq_false (by omega), by omega, fun qz => by omega, fun qz => eq_false (by omega), fun qz => eq_false (by omega), eq_false (by omega), eq_false (by omega), by omega, fun qz => by omega, fun qz => eq_false (by omega), fun qz => eq_false (by omega), eq_false (by omega), eq_false (by omega), by omega, fun qz => by omega, fun qz => eq_false (by omega), fun qz => eq_false (by omega), eq_false (by omega), eq_false (by omega), by omega, fun qz => by omega, fun qz => eq_false (by omega), fun qz => eq_false (by omega), eq_false (by omega), eq_false (by omega), fun qz => eq_false (by omega)⟩
        have hF := And.intro (hB) (And.intro (hC) (hD))
        repeat (first | refine wD1 ?_ | refine wD2 ?_ | refine wE1 ?_ | refine wE2 ?_ | (refine wE3 ?_; intro _) | (refine wE4 ?_; intro _) | refine wN ?_ | ((with_reducible show evIs _ (_ :: _) _ _); first | refine wQ ?_ | refine wF ?_ | refine wG ?_ | refine wT ?_ | refine wM ?_ | refine wS ?_ | refine wP ?_ | refine wJ ?_ | refine wX ?_ | refine wY ?_ | refine wZ ?_))
        clear hF
        repeat refine evDone ?_
        try (show AW _ _ _ _ _)
        have hF := And.intro (hma) (And.intro (hcs) (And.intro (hB) (And.intro (hC) (hD))))
        refine wC (hA := h20) ?_
        clear hF
        have hF := And.intro (hB) (And.intro (hC) (hD))
        repeat (first | refine wD1 ?_ | refine wD2 ?_ | refine wE1 ?_ | refine wE2 ?_ | (refine wE3 ?_; intro _) | (refine wE4 ?_; intro _) | refine wN ?_ | ((with_reducible show evIs _ (_ :: _) _ _); first | refine wQ ?_ | refine wF ?_ | refine wG ?_ | refine wT ?_ | refine wM ?_ | refine wS ?_ | refine wP ?_ | refine wJ ?_ | refine wX ?_ | refine wY ?_ | refine wZ ?_))
        clear hF
        repeat refine evDone ?_
        try (show AW _ _ _ _ _)
        refine ⟨rfl, ((xs', ws'), (H, K'), nn), ⟨hal.2.1, by dsimp only; omega, ⟨by dsimp only; omega, by dsimp only; omega, by dsimp only; omega, by dsimp only; omega, by dsimp only; omega, by dsimp only; omega, by dsimp only; omega, by dsimp only; omega⟩⟩, ?_⟩
        refine Fit.mk _ _ _ (by simp [hB, hC, hD, conv2, newEmp, convs_refl, convs, conv]) (by simp [hB, hC, hD, heapFit, newEmp, conv2s, conv2, convs_refl, convs, conv]) (by intro q hq; first | (simp at hq; done) | (simp at hq; omega) | (simp at hq; simp; omega))
      have hk2' : (ak == 2) = false := by simp [hk2]
      have hF := And.intro (hk2) (And.intro (hk2') (hB))
      repeat (first | refine wD1 ?_ | refine wD2 ?_ | refine wE1 ?_ | refine wE2 ?_ | (refine wE3 ?_; intro _) | (refine wE4 ?_; intro _) | refine wN ?_ | ((with_reducible show evIs _ (_ :: _) _ _); first | refine wQ ?_ | refine wF ?_ | refine wG ?_ | refine wT ?_ | refine wM ?_ | refine wS ?_ | refine wP ?_ | refine wJ ?_ | refine wX ?_ | refine wY ?_ | refine wZ ?_))
      clear hF
      repeat refine evDone ?_
      try (show AW _ _ _ _ _)
      repeat refine AW.seq ?_
      refine AW.condF (by simp [hk2, hk2']) (by simp [hk2, hk2']) ?_
      have hf2 : H < m + 200 ∧ K < m + 200 ∧ 102 < m + 200 ∧ 2002 < m + 200 ∧ A < m + 200 := ⟨by omega, by omega, by omega, by omega, by omega⟩
      by_cases hx0 : xs = []
      · subst hx0
        have hw0 : ws = [] := by simpa using hwl
        subst hw0
        have h22 := f22z
        have h23 := f23z
        simp only [qv, wv, items, List.map_nil, List.map_cons, Item.av] at h22 h23
        have hcx := hcs0
        repeat refine AW.seq ?_
        refine AW.reg ?_
        have hF := hB
        repeat ((with_reducible show evIs _ (_ :: _) _ _); first | refine wQ ?_ | refine wF ?_ | refine wG ?_ | refine wT ?_ | refine wM ?_ | refine wS ?_ | refine wP ?_)
        clear hF
        repeat refine evDone ?_
        try (show AW _ _ _ _ _)
        have hF := And.intro (hma) (And.intro (hcx) (hB))
        refine wC (hA := h22) ?_
        clear hF
        have hF := hB
        repeat ((with_reducible show evIs _ (_ :: _) _ _); first | refine wQ ?_ | refine wF ?_ | refine wG ?_ | refine wT ?_ | refine wM ?_ | refine wS ?_ | refine wP ?_)
        clear hF
        repeat refine evDone ?_
        try (show AW _ _ _ _ _)
        repeat refine AW.seq ?_
        refine AW.reg ?_
        have hF := hB
        repeat ((with_reducible show evIs _ (_ :: _) _ _); first | refine wQ ?_ | refine wF ?_ | refine wG ?_ | refine wT ?_ | refine wM ?_ | refine wS ?_ | refine wP ?_)
        clear hF
        repeat refine evDone ?_
        try (show AW _ _ _ _ _)
        have hF := And.intro (hma) (And.intro (hcx) (hB))
        refine wC (hA := h23) ?_
        clear hF
        have hF := hB
        repeat ((with_reducible show evIs _ (_ :: _) _ _); first | refine wQ ?_ | refine wF ?_ | refine wG ?_ | refine wT ?_ | refine wM ?_ | refine wS ?_ | refine wP ?_)
        clear hF
        repeat refine evDone ?_
        try (show AW _ _ _ _ _)
        refine AW.reg ?_
        have hF := hB
        repeat ((with_reducible show evIs _ (_ :: _) _ _); first | refine wQ ?_ | refine wF ?_ | refine wG ?_ | refine wT ?_ | refine wM ?_ | refine wS ?_ | refine wP ?_)
        clear hF
        repeat refine evDone ?_
        try (show AW _ _ _ _ _)
        refine ⟨rfl, (([], []), (H, K), m + 200), ⟨hA, by dsimp only; omega, ⟨by dsimp only; omega, by dsimp only; omega, by dsimp only; omega, by dsimp only; omega, by dsimp only; omega, by dsimp only; omega, by dsimp only; omega, by dsimp only; omega⟩⟩, ?_⟩
        refine Fit.mk _ _ _ (by simp [hB, hf2, conv2, newEmp, convs_refl, convs, conv]) (by simp [hB, hf2, heapFit, newEmp, conv2s, conv2, convs_refl, convs, conv]) (by intro q hq; first | (simp at hq; done) | (simp at hq; omega) | (simp at hq; simp; omega))
      · obtain ⟨x, xr, wr, hxe, hwe⟩ := alike_first hA (List.length_pos_iff.2 hx0)
        obtain ⟨x1, x2⟩ := x
        have hA2 := hA
        rw [hxe, hwe] at hA2
        have hwl2 := hA2.len
        subst hxe hwe
        have h22 := f22 ⟨x1, x2⟩ xr
        have h23 := f23 ⟨x1, x2⟩ wr
        simp only [qv, wv, items, List.map_nil, List.map_cons, Item.av] at h22 h23
        have hcx : List.take xr.length (List.map (clC ∘ Item.av) xr) = List.map Item.av xr ∧ List.take wr.length (List.map (clC ∘ Item.av) wr) = List.map Item.av wr ∧ (Item.mk x1 x2).av = .agg [.int .i64 x1, .int .i64 x2] := ⟨by rw [← List.map_map, items_cl, List.take_of_length_le (by simp)], by rw [← List.map_map, items_cl, List.take_of_length_le (by simp)], rfl⟩
        repeat refine AW.seq ?_
        refine AW.reg ?_
        have hF := hB
        repeat ((with_reducible show evIs _ (_ :: _) _ _); first | refine wQ ?_ | refine wF ?_ | refine wG ?_ | refine wT ?_ | refine wM ?_ | refine wS ?_ | refine wP ?_)
        clear hF
        repeat refine evDone ?_
        try (show AW _ _ _ _ _)
        have hF := And.intro (hma) (And.intro (hcx) (hB))
        refine wC (hA := h22) ?_
        clear hF
        have hF := hB
        repeat ((with_reducible show evIs _ (_ :: _) _ _); first | refine wQ ?_ | refine wF ?_ | refine wG ?_ | refine wT ?_ | refine wM ?_ | refine wS ?_ | refine wP ?_)
        clear hF
        repeat refine evDone ?_
        try (show AW _ _ _ _ _)
        repeat refine AW.seq ?_
        refine AW.reg ?_
        have hF := hB
        repeat ((with_reducible show evIs _ (_ :: _) _ _); first | refine wQ ?_ | refine wF ?_ | refine wG ?_ | refine wT ?_ | refine wM ?_ | refine wS ?_ | refine wP ?_)
        clear hF
        repeat refine evDone ?_
        try (show AW _ _ _ _ _)
        have hF := And.intro (hma) (And.intro (hcx) (hB))
        refine wC (hA := h23) ?_
        clear hF
        have hF := hB
        repeat ((with_reducible show evIs _ (_ :: _) _ _); first | refine wQ ?_ | refine wF ?_ | refine wG ?_ | refine wT ?_ | refine wM ?_ | refine wS ?_ | refine wP ?_)
        clear hF
        repeat refine evDone ?_
        try (show AW _ _ _ _ _)
        refine AW.reg ?_
        have hF := hB
        repeat ((with_reducible show evIs _ (_ :: _) _ _); first | refine wQ ?_ | refine wF ?_ | refine wG ?_ | refine wT ?_ | refine wM ?_ | refine wS ?_ | refine wP ?_)
        clear hF
        repeat refine evDone ?_
        try (show AW _ _ _ _ _)
        refine ⟨rfl, (((⟨x1, x2⟩ :: xr), (⟨x1, x2⟩ :: wr)), (H, K), m + 200), ⟨hA, by dsimp only; omega, ⟨by dsimp only; omega, by dsimp only; omega, by dsimp only; omega, by dsimp only; omega, by dsimp only; omega, by dsimp only; omega, by dsimp only; omega, by dsimp only; omega⟩⟩, ?_⟩
        refine Fit.mk _ _ _ (by simp [hB, hf2, conv2, newEmp, convs_refl, convs, conv]) (by simp [hB, hf2, heapFit, newEmp, conv2s, conv2, convs_refl, convs, conv]) (by intro q hq; first | (simp at hq; done) | (simp at hq; omega) | (simp at hq; simp; omega))
    rintro ⟨⟨xs, ws⟩, ⟨H, K⟩, n⟩ ⟨hA, hxl, hS⟩
    dsimp only at hA hxl hS ⊢
    obtain ⟨s1, s2, s3, s4, s5, s6, s7, s8⟩ := hS
    have hwl := hA.len
    show AW _ _ _ _ _
    rw [mkS_eq]
    have hD : (102 = H) = False ∧ (102 = K) = False ∧ (H = 102) = False ∧ (H = 2002) = False ∧ (H = K) = False ∧ (2002 = H) = False ∧ (2002 = K) = False ∧ (K = 102) = False ∧ (K = H) = False ∧ (K = 2002) = False ∧ 102 < n ∧ (∀ qz, 102 < n + qz) ∧ (∀ qz, (102 = n + qz) = False) ∧ (∀ qz, (n + qz = 102) = False) ∧ (102 = n) = False ∧ (n = 102) = False ∧ H < n ∧ (∀ qz, H < n + qz) ∧ (∀ qz, (H = n + qz) = False) ∧ (∀ qz, (n + qz = H) = False) ∧ (H = n) = False ∧ (n = H) = False ∧ 2002 < n ∧ (∀ qz, 2002 < n + qz) ∧ (∀ qz, (2002 = n + qz) = False) ∧ (∀ qz, (n + qz = 2002) = False) ∧ (2002 = n) = False ∧ (n = 2002) = False ∧ K < n ∧ (∀ qz, K < n + qz) ∧ (∀ qz, (K = n + qz) = False) ∧ (∀ qz, (n + qz = K) = False) ∧ (K = n) = False ∧ (n = K) = False ∧ (∀ qz, (n + qz < n) = False) := ⟨eq_false (by omega), eq_false (by omega), eq_false (by omega), eq_false (by omega), eq_false (by omega), eq_false (by omega), eq_false (by omega), eq_false (by omega), eq_false (by omega), eq_false (by omega), by omega, fun qz => by omega, fun qz => eq_false (by omega), fun qz => eq_false (by omega), eq_false (by omega), eq_false (by omega), by omega, fun qz => by omega, fun qz => eq_false (by omega), fun qz => eq_false (by omega), eq_false (by omega), eq_false (by omega), by omega, fun qz => by omega, fun qz => eq_false (by omega), fun qz => eq_false (by omega), eq_false (by omega), eq_false (by omega), by omega, fun qz => by omega, fun qz => eq_false (by omega), fun qz => eq_false (by omega), eq_false (by omega), eq_false (by omega), fun qz => eq_false (by omega)⟩
    have h15 := f15 xs
    have h24 := f24 ws (by omega)
    have h25 := f25 xs (by omega)
    have h26 := f26 ws (by omega)
    have h20 := f20 ws (by omega)
    rw [hA.list] at h25
    simp only [qv, wv, items] at h15 h24 h25 h26 h20
    have hss : scs (ws.map Item.av) = true := items_scs _
    have hcs : (xs.map Item.av).take xs.length = xs.map Item.av ∧ (xs.map Item.av).map clC = xs.map Item.av ∧ (ws.map Item.av).take xs.length = ws.map Item.av ∧ (ws.map Item.av).map clC = ws.map Item.av ∧ ws.length = xs.length := ⟨List.take_of_length_le (by simp), items_cl xs, List.take_of_length_le (by simp; omega), items_cl ws, hwl⟩
    repeat refine AW.seq ?_
    refine AW.reg ?_
    have hF := hD
    repeat ((with_reducible show evIs _ (_ :: _) _ _); first | refine wQ ?_ | refine wF ?_ | refine wG ?_ | refine wT ?_ | refine wM ?_ | refine wS ?_ | refine wP ?_)
    clear hF
    repeat refine evDone ?_
    try (show AW _ _ _ _ _)
    have hF := And.intro (hma) (And.intro (hcs) (hD))
    refine wC (hA := h15) ?_
    clear hF
    have hF := And.intro (hcs) (hD)
    repeat ((with_reducible show evIs _ (_ :: _) _ _); first | refine wQ ?_ | refine wF ?_ | refine wG ?_ | refine wT ?_ | refine wM ?_ | refine wS ?_ | refine wP ?_)
    clear hF
    repeat refine evDone ?_
    try (show AW _ _ _ _ _)
    have hF := And.intro (hma) (And.intro (hcs) (hD))
    refine wC (hA := h24) ?_
    clear hF
    have hF := And.intro (hcs) (hD)
    repeat ((with_reducible show evIs _ (_ :: _) _ _); first | refine wQ ?_ | refine wF ?_ | refine wG ?_ | refine wT ?_ | refine wM ?_ | refine wS ?_ | refine wP ?_)
    clear hF
    repeat refine evDone ?_
    try (show AW _ _ _ _ _)
    have hF := And.intro (hma) (And.intro (hcs) (And.intro (hss) (hD)))
    refine wC (hA := h25) ?_
    clear hF
    have hF := And.intro (hcs) (hD)
    repeat ((with_reducible show evIs _ (_ :: _) _ _); first | refine wQ ?_ | refine wF ?_ | refine wG ?_ | refine wT ?_ | refine wM ?_ | refine wS ?_ | refine wP ?_)
    clear hF
    repeat refine evDone ?_
    try (show AW _ _ _ _ _)
    have hF := And.intro (hma) (And.intro (hcs) (And.intro (hss) (hD)))
    refine wC (hA := h26) ?_
    clear hF
    have hF := And.intro (hcs) (hD)
    repeat ((with_reducible show evIs _ (_ :: _) _ _); first | refine wQ ?_ | refine wF ?_ | refine wG ?_ | refine wT ?_ | refine wM ?_ | refine wS ?_ | refine wP ?_)
    clear hF
    repeat refine evDone ?_
    try (show AW _ _ _ _ _)
    have hF := And.intro (hma) (And.intro (hcs) (And.intro (hss) (hD)))
    refine wC (hA := h20) ?_
    clear hF
    have hF := And.intro (hcs) (hD)
    repeat ((with_reducible show evIs _ (_ :: _) _ _); first | refine wQ ?_ | refine wF ?_ | refine wG ?_ | refine wT ?_ | refine wM ?_ | refine wS ?_ | refine wP ?_)
    clear hF
    repeat refine evDone ?_
    try (show AW _ _ _ _ _)
    repeat refine AW.seq ?_
    refine AW.condF (by simp []) (by simp []) ?_
    refine AW.skip ?_
    show AW _ _ _ _ _
    refine AW.reg ?_
    have hF := And.intro (hw1) (hD)
    repeat ((with_reducible show evIs _ (_ :: _) _ _); first | refine wQ ?_ | refine wF ?_ | refine wG ?_ | refine wT ?_ | refine wM ?_ | refine wS ?_ | refine wP ?_)
    clear hF
    repeat refine evDone ?_
    try (show AW _ _ _ _ _)
    refine ⟨(i + 1, (xs, ws), (H, K), n), ⟨by dsimp only; omega, hA, hxl, ⟨s1, s2, s3, s4, s5, s6, s7, s8⟩⟩, by dsimp only; omega, ?_⟩
    refine Fit.mk _ _ _ (by simp [hw1, hD, hcs, conv2, newEmp, convs_refl, convs, conv]) (by simp [hw1, hD, hcs, heapFit, newEmp, conv2s, conv2, convs_refl, convs, conv]) (by intro q hq; first | (simp at hq; done) | (simp at hq; omega) | (simp at hq; simp; omega))
  · have hlt2 : ¬ (i : Int) < l.length := by omega
    have hF := And.intro (hlt) (hlt2)
    repeat ((with_reducible show evIs _ (_ :: _) _ _); first | refine wQ ?_ | refine wF ?_ | refine wG ?_ | refine wT ?_ | refine wM ?_ | refine wS ?_ | refine wP ?_)
    clear hF
    repeat refine evDone ?_
    try (show AW _ _ _ _ _)
    repeat refine AW.seq ?_
    refine AW.condF (by simp []) (by simp []) ?_
    refine AW.exit ?_
    show AW _ _ _ _ _
    repeat refine AW.seq ?_
    refine AW.reg ?_
    have hF := True.intro
    repeat ((with_reducible show evIs _ (_ :: _) _ _); first | refine wQ ?_ | refine wF ?_ | refine wG ?_ | refine wT ?_ | refine wM ?_ | refine wS ?_ | refine wP ?_)
    clear hF
    repeat refine evDone ?_
    try (show AW _ _ _ _ _)
    have hF := True.intro
    refine wC (hA := hw) ?_
    clear hF
    have hF := True.intro
    repeat ((with_reducible show evIs _ (_ :: _) _ _); first | refine wQ ?_ | refine wF ?_ | refine wG ?_ | refine wT ?_ | refine wM ?_ | refine wS ?_ | refine wP ?_)
    clear hF
    repeat refine evDone ?_
    try (show AW _ _ _ _ _)
    refine AW.ret (retI rfl ?_)
    simp [a4_res, resOk, resP, resV, ARes.op, R2s, R2, R1s, R1, closeOk, closeV]
end Go.Proofs.Ytljahaeachdjmaa
