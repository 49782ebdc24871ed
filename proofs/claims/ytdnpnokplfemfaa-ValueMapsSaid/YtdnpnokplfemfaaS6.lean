/- Contracts of chapter 2's functions, ninth part: two numbers sorted. -/
import Derived.Test.YtdnpnokplfemfaaS2
import Derived.Test.YtdnpnokplfemfaaB2
import Derived.Test.YtdnpnokplfemfaaS3
import Derived.Test.YtdnpnokplfemfaaA3
import Derived.Test.YtdnpnokplfemfaaChecked

set_option linter.unusedSimpArgs false
set_option linter.unusedVariables false
set_option maxHeartbeats 8000000
namespace Go.Proofs.Ytdnpnokplfemfaa
open Go Go.Amb Go.IntWalk

theorem mkS_eq (t : List (Nat × AV)) (h : List (Nat × Blk)) (n : Nat) : mkS t h n = ⟨mkT t, mkH h, n, fun r => decide (r < n)⟩ := rfl
theorem f127 : ACall Try.prog 127 [.int .u64 2] (fun v => ∃ n, v = .int .i64 n ∧ True) := by
  have hw2 : IntKind.u8.wrap 2 = 2 := by decide
  have hw22 : IntKind.i64.wrap 2 = 2 := by decide
  refine a127_of (by simp) ?_
  repeat refine AW.seq ?_
  refine AW.reg ?_
  have hF := True.intro
  repeat ((with_reducible show evIs _ (_ :: _) _ _); first | refine wQ ?_ | refine wF ?_ | refine wG ?_ | refine wT ?_ | refine wM ?_ | refine wS ?_ | refine wP ?_)
  clear hF
  repeat refine evDone ?_
  try (show AW _ _ _ _ _)
  repeat refine AW.seq ?_
  refine AW.reg ?_
  have hF := True.intro
  repeat ((with_reducible show evIs _ (_ :: _) _ _); first | refine wQ ?_ | refine wF ?_ | refine wG ?_ | refine wT ?_ | refine wM ?_ | refine wS ?_ | refine wP ?_)
  clear hF
  repeat refine evDone ?_
  try (show AW _ _ _ _ _)
  repeat refine AW.seq ?_
  refine AW.condF (by simp []) (by simp []) ?_
  refine AW.skip ?_
  show AW _ _ _ _ _
  repeat refine AW.seq ?_
  refine AW.reg ?_
  have hF := True.intro
  repeat ((with_reducible show evIs _ (_ :: _) _ _); first | refine wQ ?_ | refine wF ?_ | refine wG ?_ | refine wT ?_ | refine wM ?_ | refine wS ?_ | refine wP ?_)
  clear hF
  repeat refine evDone ?_
  try (show AW _ _ _ _ _)
  repeat refine AW.seq ?_
  refine AW.condF (by simp []) (by simp []) ?_
  refine AW.skip ?_
  show AW _ _ _ _ _
  repeat refine AW.seq ?_
  refine AW.reg ?_
  have hF := True.intro
  repeat ((with_reducible show evIs _ (_ :: _) _ _); first | refine wQ ?_ | refine wF ?_ | refine wG ?_ | refine wT ?_ | refine wM ?_ | refine wS ?_ | refine wP ?_)
  clear hF
  repeat refine evDone ?_
  try (show AW _ _ _ _ _)
  repeat refine AW.seq ?_
  refine AW.condF (by simp []) (by simp []) ?_
  refine AW.skip ?_
  show AW _ _ _ _ _
  repeat refine AW.seq ?_
  refine AW.reg ?_
  have hF := hw2
  refine wQ ?_
  refine wQ ?_
  refine wQ ?_
  clear hF
  refine evQ rfl rfl rfl (show _ = AV.int .u8 2 by rfl) ⟨trivial, trivial, rfl, by decide, Int.lt_of_lt_of_le (show (2 : Int) < 256 by decide) (Int.le_of_eq (by kernel_rfl))⟩ ?_
  have hF := hw22
  repeat ((with_reducible show evIs _ (_ :: _) _ _); first | refine wQ ?_ | refine wF ?_ | refine wG ?_ | refine wT ?_ | refine wM ?_ | refine wS ?_ | refine wP ?_)
  clear hF
  repeat refine evDone ?_
  try (show AW _ _ _ _ _)
  refine AW.ret (retI (r := .int .i64 2) ⟨_, rfl, trivial⟩ ?_)
  simp [a127_res, resOk, resP, resV, ARes.op, R2s, R2, R1s, R1, closeOk, closeV]
theorem f98 : ACall Try.prog 98 [.int .u64 2] (fun v => ∃ n, v = .int .i64 n ∧ True) := by
  have h := f127
  refine a98_of (by simp) ?_
  repeat refine AW.seq ?_
  refine AW.reg ?_
  have hF := True.intro
  repeat ((with_reducible show evIs _ (_ :: _) _ _); first | refine wQ ?_ | refine wF ?_ | refine wG ?_ | refine wT ?_ | refine wM ?_ | refine wS ?_ | refine wP ?_)
  clear hF
  repeat refine evDone ?_
  try (show AW _ _ _ _ _)
  repeat refine AW.seq ?_
  refine AW.condF (by simp []) (by simp []) ?_
  refine AW.skip ?_
  show AW _ _ _ _ _
  repeat refine AW.seq ?_
  refine AW.reg ?_
  have hF := True.intro
  repeat ((with_reducible show evIs _ (_ :: _) _ _); first | refine wQ ?_ | refine wF ?_ | refine wG ?_ | refine wT ?_ | refine wM ?_ | refine wS ?_ | refine wP ?_)
  clear hF
  repeat refine evDone ?_
  try (show AW _ _ _ _ _)
  have hF := True.intro
  refine wI (hA := h) ?_
  clear hF
  intro l hl
  have hF := True.intro
  repeat ((with_reducible show evIs _ (_ :: _) _ _); first | refine wQ ?_ | refine wF ?_ | refine wG ?_ | refine wT ?_ | refine wM ?_ | refine wS ?_ | refine wP ?_)
  clear hF
  repeat refine evDone ?_
  try (show AW _ _ _ _ _)
  refine AW.ret (retI (r := .int .i64 l) ⟨_, rfl, trivial⟩ ?_)
  simp [a98_res, resOk, resP, resV, ARes.op, R2s, R2, R1s, R1, closeOk, closeV]
theorem f72 (ks : List ByteArray) (i j : Nat) (p q : ByteArray) (hi : ks[i]? = some p) (hj : ks[j]? = some q) : ACall Try.prog 72 [.int .i64 i, .int .i64 j, .fptr (.sl .fro (ks.map .str)) 0] (· = .int .i64 (cmpS p q)) := by
  have h73 := f73 p q
  have hei := elem_map (f := AV.str) hi
  have hej := elem_map (f := AV.str) hj
  have hli : i < ks.length := (List.getElem?_eq_some_iff.1 hi).1
  have hlj : j < ks.length := (List.getElem?_eq_some_iff.1 hj).1
  refine a72_of (by simp) ?_
  repeat refine AW.seq ?_
  refine AW.reg ?_
  have hF := True.intro
  repeat ((with_reducible show evIs _ (_ :: _) _ _); first | refine wQ ?_ | refine wF ?_ | refine wG ?_ | refine wT ?_ | refine wM ?_ | refine wS ?_ | refine wP ?_)
  clear hF
  repeat refine evDone ?_
  try (show AW _ _ _ _ _)
  repeat refine AW.seq ?_
  refine AW.draw ?_
  have hF := And.intro (hei) (And.intro (hej) (And.intro (hli) (hlj)))
  repeat (first | refine wD1 ?_ | refine wD2 ?_ | refine wE1 ?_ | refine wE2 ?_ | (refine wE3 ?_; intro _) | (refine wE4 ?_; intro _) | refine wN ?_ | ((with_reducible show evIs _ (_ :: _) _ _); first | refine wQ ?_ | refine wF ?_ | refine wG ?_ | refine wT ?_ | refine wM ?_ | refine wS ?_ | refine wP ?_ | refine wJ ?_ | refine wX ?_ | refine wY ?_ | refine wZ ?_ | refine wU ?_ | refine wCp ?_ | refine wCp0 ?_ | refine wApz ?_ | (refine wCap ?_; intro qc hqc)))
  clear hF
  repeat refine evDone ?_
  try (show AW _ _ _ _ _)
  have hF := True.intro
  refine wC (hA := h73) ?_
  clear hF
  have hF := True.intro
  repeat (first | refine wD1 ?_ | refine wD2 ?_ | refine wE1 ?_ | refine wE2 ?_ | (refine wE3 ?_; intro _) | (refine wE4 ?_; intro _) | refine wN ?_ | ((with_reducible show evIs _ (_ :: _) _ _); first | refine wQ ?_ | refine wF ?_ | refine wG ?_ | refine wT ?_ | refine wM ?_ | refine wS ?_ | refine wP ?_ | refine wJ ?_ | refine wX ?_ | refine wY ?_ | refine wZ ?_ | refine wU ?_ | refine wCp ?_ | refine wCp0 ?_ | refine wApz ?_ | (refine wCap ?_; intro qc hqc)))
  clear hF
  repeat refine evDone ?_
  try (show AW _ _ _ _ _)
  refine AW.ret (retI rfl ?_)
  simp [a72_res, resOk, resP, resV, ARes.op, R2s, R2, R1s, R1, closeOk, closeV]
theorem f118 (N r b : Nat) (hr : r < N) (hb : b < N) (hrb : r ≠ b) (ks : List ByteArray) (x y c : Int) (hc : ACall Try.prog 72 [.int .i64 y, .int .i64 x, .fptr (.sl .fro (ks.map .str)) 0] (· = .int .i64 c)) :
    BCall Try.prog 118 [(r, ⟨1, false, [.int .i64 x, .int .i64 y]⟩), (b, ⟨1, true, [.sl .fro (ks.map .str)]⟩)] N [.hdr r 0 2, .int .i64 0, .int .i64 2, .fn 72 [.ptr b 0 0]] (fun H1 n' v => H1 = [(r, ⟨1, false, [.int .i64 (if c < 0 then y else x), .int .i64 (if c < 0 then x else y)]⟩), (b, ⟨1, true, [.sl .fro (ks.map .str)]⟩)] ∧ n' = N + 500 ∧ v = .tup []) := by
  have hma : ∀ (fh fq : Nat → Nat → Nat → AV) (xs : List AV), mapA fh fq (.sl .fro xs) = .sl .fro xs := fun _ _ _ => by simp [mapA]
  have hN : (b = r) = False ∧ (r = b) = False ∧ (∀ q, (b = N + q) = False) ∧ (∀ q, (N + q = b) = False) ∧ (∀ q, (r = N + q) = False) ∧ (∀ q, (N + q = r) = False) ∧ (∀ q, b < N + q) ∧ (∀ q, r < N + q) ∧ b < N ∧ r < N := by
    refine ⟨?_, ?_, ?_, ?_, ?_, ?_, ?_, ?_, ?_, ?_⟩ <;> first | exact eq_false (by omega) | exact fun q => eq_false (by omega) | exact fun q => by omega | omega
  have hw2 : IntKind.i64.wrap 2 = 2 := i64_in _ ⟨by omega, by omega⟩
  have hw1 : IntKind.i64.wrap 1 = 1 := i64_in _ ⟨by omega, by omega⟩
  have hw0 : IntKind.i64.wrap 0 = 0 := i64_in _ ⟨by omega, by omega⟩
  refine bcall_coded a118_ok (by simp) ?_
  rw [mkS_eq]
  repeat refine AW.seq ?_
  refine AW.reg ?_
  have hF := And.intro (hw1) (hN)
  repeat ((with_reducible show evIs _ (_ :: _) _ _); first | refine wQ ?_ | refine wF ?_ | refine wG ?_ | refine wT ?_ | refine wM ?_ | refine wS ?_ | refine wP ?_)
  clear hF
  repeat refine evDone ?_
  try (show AW _ _ _ _ _)
  repeat refine AW.seq ?_
  refine AW.block ?_
  by_cases hcc : c < 0
  · refine AW.loop (fun g : Nat => g ≤ 1) (fun g => if g = 0 then mkS [(0, .hdr r 0 2), (1, .int .i64 0), (2, .int .i64 2), (3, .fn 72 [.ptr b 0 0]), (8, .int .i64 1)] [(r, ⟨1, false, [.int .i64 x, .int .i64 y]⟩), (b, ⟨1, true, [.sl .fro (ks.map .str)]⟩)] (N + 5) else mkS [(0, .hdr r 0 2), (1, .int .i64 0), (2, .int .i64 2), (3, .fn 72 [.ptr b 0 0]), (8, .int .i64 2)] [(r, ⟨1, false, [.int .i64 y, .int .i64 x]⟩), (b, ⟨1, true, [.sl .fro (ks.map .str)]⟩)] (N + 300)) (fun g => 1 - g) 0 (by omega) ?_ ?_
    · rw [if_pos rfl]
      refine Fit.mk _ _ _ (by simp [hw1, hN, conv2, newEmp, convs_refl, convs, conv]) (by simp [hw1, hN, heapFit, newEmp, conv2s, conv2, convs_refl, convs, conv]) (by intro q hq; first | (simp at hq; done) | (simp at hq; omega) | (simp at hq; simp; omega))
    · intro g hg
      by_cases hg0 : g = 0
      · subst hg0
        rw [if_pos rfl]
        repeat refine AW.seq ?_
        refine AW.reg ?_
        have hF := hN
        repeat ((with_reducible show evIs _ (_ :: _) _ _); first | refine wQ ?_ | refine wF ?_ | refine wG ?_ | refine wT ?_ | refine wM ?_ | refine wS ?_ | refine wP ?_)
        clear hF
        repeat refine evDone ?_
        try (show AW _ _ _ _ _)
        repeat refine AW.seq ?_
        refine AW.condT (by simp []) (by simp []) ?_
        refine AW.skip ?_
        show AW _ _ _ _ _
        refine AW.seq (AW.block ?_)
        repeat refine AW.seq ?_
        refine AW.reg ?_
        have hF := hN
        repeat ((with_reducible show evIs _ (_ :: _) _ _); first | refine wQ ?_ | refine wF ?_ | refine wG ?_ | refine wT ?_ | refine wM ?_ | refine wS ?_ | refine wP ?_)
        clear hF
        repeat refine evDone ?_
        try (show AW _ _ _ _ _)
        repeat refine AW.seq ?_
        refine AW.block ?_
        refine AW.loop (fun g : Nat => g ≤ 1) (fun g => if g = 0 then mkS [(0, .hdr r 0 2), (1, .int .i64 0), (2, .int .i64 2), (3, .fn 72 [.ptr b 0 0]), (8, .int .i64 1), (9, .int .i64 1)] [(r, ⟨1, false, [.int .i64 x, .int .i64 y]⟩), (b, ⟨1, true, [.sl .fro (ks.map .str)]⟩)] (N + 50) else mkS [(0, .hdr r 0 2), (1, .int .i64 0), (2, .int .i64 2), (3, .fn 72 [.ptr b 0 0]), (8, .int .i64 1), (9, .int .i64 0)] [(r, ⟨1, false, [.int .i64 y, .int .i64 x]⟩), (b, ⟨1, true, [.sl .fro (ks.map .str)]⟩)] (N + 200)) (fun g => 1 - g) 0 (by omega) ?_ ?_
        · rw [if_pos rfl]
          refine Fit.mk _ _ _ (by simp [hN, conv2, newEmp, convs_refl, convs, conv]) (by simp [hN, heapFit, newEmp, conv2s, conv2, convs_refl, convs, conv]) (by intro q hq; first | (simp at hq; done) | (simp at hq; omega) | (simp at hq; simp; omega))
        · intro g hg
          by_cases hg0 : g = 0
          · subst hg0
            rw [if_pos rfl]
            repeat refine AW.seq ?_
            refine AW.draw ?_
            have hF := And.intro (hw0) (hN)
            repeat (first | refine wD1 ?_ | refine wD2 ?_ | refine wE1 ?_ | refine wE2 ?_ | (refine wE3 ?_; intro _) | (refine wE4 ?_; intro _) | refine wN ?_ | ((with_reducible show evIs _ (_ :: _) _ _); first | refine wQ ?_ | refine wF ?_ | refine wG ?_ | refine wT ?_ | refine wM ?_ | refine wS ?_ | refine wP ?_ | refine wJ ?_ | refine wX ?_ | refine wY ?_ | refine wZ ?_ | refine wU ?_ | refine wCp ?_ | refine wCp0 ?_ | refine wApz ?_ | (refine wCap ?_; intro qc hqc)))
            clear hF
            repeat refine evDone ?_
            try (show AW _ _ _ _ _)
            have hF := And.intro (hN) (hma)
            refine wV (hA := hc) ?_
            clear hF
            have hF := And.intro (hcc) (hN)
            repeat (first | refine wD1 ?_ | refine wD2 ?_ | refine wE1 ?_ | refine wE2 ?_ | (refine wE3 ?_; intro _) | (refine wE4 ?_; intro _) | refine wN ?_ | ((with_reducible show evIs _ (_ :: _) _ _); first | refine wQ ?_ | refine wF ?_ | refine wG ?_ | refine wT ?_ | refine wM ?_ | refine wS ?_ | refine wP ?_ | refine wJ ?_ | refine wX ?_ | refine wY ?_ | refine wZ ?_ | refine wU ?_ | refine wCp ?_ | refine wCp0 ?_ | refine wApz ?_ | (refine wCap ?_; intro qc hqc)))
            clear hF
            repeat refine evDone ?_
            try (show AW _ _ _ _ _)
            repeat refine AW.seq ?_
            refine AW.condT (by simp [hcc]) (by simp [hcc]) ?_
            refine AW.skip ?_
            show AW _ _ _ _ _
            refine AW.seq (AW.block ?_)
            repeat refine AW.seq ?_
            refine AW.draw ?_
            have hF := And.intro (hw0) (hN)
            repeat (first | refine wD1 ?_ | refine wD2 ?_ | refine wE1 ?_ | refine wE2 ?_ | (refine wE3 ?_; intro _) | (refine wE4 ?_; intro _) | refine wN ?_ | ((with_reducible show evIs _ (_ :: _) _ _); first | refine wQ ?_ | refine wF ?_ | refine wG ?_ | refine wT ?_ | refine wM ?_ | refine wS ?_ | refine wP ?_ | refine wJ ?_ | refine wX ?_ | refine wY ?_ | refine wZ ?_ | refine wU ?_ | refine wCp ?_ | refine wCp0 ?_ | refine wApz ?_ | (refine wCap ?_; intro qc hqc)))
            clear hF
            repeat refine evDone ?_
            try (show AW _ _ _ _ _)
            refine AW.reg ?_
            have hF := And.intro (hw0) (hN)
            repeat ((with_reducible show evIs _ (_ :: _) _ _); first | refine wQ ?_ | refine wF ?_ | refine wG ?_ | refine wT ?_ | refine wM ?_ | refine wS ?_ | refine wP ?_)
            clear hF
            repeat refine evDone ?_
            try (show AW _ _ _ _ _)
            refine ⟨1, by omega, by omega, ?_⟩
            rw [if_neg (by omega)]
            refine Fit.mk _ _ _ (by simp [hw0, hN, conv2, newEmp, convs_refl, convs, conv]) (by simp [hw0, hN, heapFit, newEmp, conv2s, conv2, convs_refl, convs, conv]) (by intro q hq; first | (simp at hq; done) | (simp at hq; omega) | (simp at hq; simp; omega))
          · have hg1 : g = 1 := by omega
            subst hg1
            rw [if_neg (by omega)]
            repeat refine AW.seq ?_
            refine AW.draw ?_
            have hF := hN
            repeat (first | refine wD1 ?_ | refine wD2 ?_ | refine wE1 ?_ | refine wE2 ?_ | refine wE6 ?_ | refine wE7 ?_ | refine wE5 ?_ | refine wN ?_ | ((with_reducible show evIs _ (_ :: _) _ _); first | refine wQ ?_ | refine wF ?_ | refine wG ?_ | refine wT ?_ | refine wM ?_ | refine wS ?_ | refine wP ?_ | refine wJ ?_ | refine wX ?_ | refine wY ?_ | refine wZ ?_ | refine wU ?_ | refine wCp ?_ | refine wCp0 ?_ | refine wApz ?_ | (refine wCap ?_; intro qc hqc)))
            clear hF
            repeat refine evDone ?_
            try (show AW _ _ _ _ _)
            repeat refine AW.seq ?_
            refine AW.condF (by simp []) (by simp []) ?_
            refine AW.exit ?_
            show AW _ _ _ _ _
            refine AW.reg ?_
            have hF := And.intro (hw2) (hN)
            repeat ((with_reducible show evIs _ (_ :: _) _ _); first | refine wQ ?_ | refine wF ?_ | refine wG ?_ | refine wT ?_ | refine wM ?_ | refine wS ?_ | refine wP ?_)
            clear hF
            repeat refine evDone ?_
            try (show AW _ _ _ _ _)
            refine ⟨1, by omega, by omega, ?_⟩
            rw [if_neg (by omega)]
            refine Fit.mk _ _ _ (by simp [hw2, hN, conv2, newEmp, convs_refl, convs, conv]) (by simp [hw2, hN, heapFit, newEmp, conv2s, conv2, convs_refl, convs, conv]) (by intro q hq; first | (simp at hq; done) | (simp at hq; omega) | (simp at hq; simp; omega))
      · have hg1 : g = 1 := by omega
        subst hg1
        rw [if_neg (by omega)]
        repeat refine AW.seq ?_
        refine AW.reg ?_
        have hF := hN
        repeat ((with_reducible show evIs _ (_ :: _) _ _); first | refine wQ ?_ | refine wF ?_ | refine wG ?_ | refine wT ?_ | refine wM ?_ | refine wS ?_ | refine wP ?_)
        clear hF
        repeat refine evDone ?_
        try (show AW _ _ _ _ _)
        repeat refine AW.seq ?_
        refine AW.condF (by simp []) (by simp []) ?_
        refine AW.exit ?_
        refine ⟨by simp [resP, a118_res, ARes.op], [(r, ⟨1, false, [.int .i64 y, .int .i64 x]⟩), (b, ⟨1, true, [.sl .fro (ks.map .str)]⟩)], N + 500, [], ⟨by simp [hcc], rfl, rfl⟩, by omega, by simp [hN], rfl, by simp, ?_⟩
        simp only [resV, a118_res, List.map_nil]
        refine Fit.mk _ _ _ (by simp [hN, conv2, newEmp, convs_refl, convs, conv]) (by simp [hN, heapFit, newEmp, conv2s, conv2, convs_refl, convs, conv]) (by intro q hq; first | (simp at hq; done) | (simp at hq; omega) | (simp at hq; simp; omega))
  · refine AW.loop (fun g : Nat => g ≤ 1) (fun g => if g = 0 then mkS [(0, .hdr r 0 2), (1, .int .i64 0), (2, .int .i64 2), (3, .fn 72 [.ptr b 0 0]), (8, .int .i64 1)] [(r, ⟨1, false, [.int .i64 x, .int .i64 y]⟩), (b, ⟨1, true, [.sl .fro (ks.map .str)]⟩)] (N + 5) else mkS [(0, .hdr r 0 2), (1, .int .i64 0), (2, .int .i64 2), (3, .fn 72 [.ptr b 0 0]), (8, .int .i64 2)] [(r, ⟨1, false, [.int .i64 x, .int .i64 y]⟩), (b, ⟨1, true, [.sl .fro (ks.map .str)]⟩)] (N + 300)) (fun g => 1 - g) 0 (by omega) ?_ ?_
    · rw [if_pos rfl]
      refine Fit.mk _ _ _ (by simp [hw1, hN, conv2, newEmp, convs_refl, convs, conv]) (by simp [hw1, hN, heapFit, newEmp, conv2s, conv2, convs_refl, convs, conv]) (by intro q hq; first | (simp at hq; done) | (simp at hq; omega) | (simp at hq; simp; omega))
    · intro g hg
      by_cases hg0 : g = 0
      · subst hg0
        rw [if_pos rfl]
        repeat refine AW.seq ?_
        refine AW.reg ?_
        have hF := hN
        repeat ((with_reducible show evIs _ (_ :: _) _ _); first | refine wQ ?_ | refine wF ?_ | refine wG ?_ | refine wT ?_ | refine wM ?_ | refine wS ?_ | refine wP ?_)
        clear hF
        repeat refine evDone ?_
        try (show AW _ _ _ _ _)
        repeat refine AW.seq ?_
        refine AW.condT (by simp []) (by simp []) ?_
        refine AW.skip ?_
        show AW _ _ _ _ _
        refine AW.seq (AW.block ?_)
        repeat refine AW.seq ?_
        refine AW.reg ?_
        have hF := hN
        repeat ((with_reducible show evIs _ (_ :: _) _ _); first | refine wQ ?_ | refine wF ?_ | refine wG ?_ | refine wT ?_ | refine wM ?_ | refine wS ?_ | refine wP ?_)
        clear hF
        repeat refine evDone ?_
        try (show AW _ _ _ _ _)
        repeat refine AW.seq ?_
        refine AW.block ?_
        refine AW.loop (fun g : Nat => g = 0) (fun g => mkS [(0, .hdr r 0 2), (1, .int .i64 0), (2, .int .i64 2), (3, .fn 72 [.ptr b 0 0]), (8, .int .i64 1), (9, .int .i64 1)] [(r, ⟨1, false, [.int .i64 x, .int .i64 y]⟩), (b, ⟨1, true, [.sl .fro (ks.map .str)]⟩)] (N + 50)) (fun g => g) 0 rfl ?_ ?_
        · refine Fit.mk _ _ _ (by simp [hN, conv2, newEmp, convs_refl, convs, conv]) (by simp [hN, heapFit, newEmp, conv2s, conv2, convs_refl, convs, conv]) (by intro q hq; first | (simp at hq; done) | (simp at hq; omega) | (simp at hq; simp; omega))
        · intro g hg
          repeat refine AW.seq ?_
          refine AW.draw ?_
          have hF := And.intro (hw0) (hN)
          repeat (first | refine wD1 ?_ | refine wD2 ?_ | refine wE1 ?_ | refine wE2 ?_ | (refine wE3 ?_; intro _) | (refine wE4 ?_; intro _) | refine wN ?_ | ((with_reducible show evIs _ (_ :: _) _ _); first | refine wQ ?_ | refine wF ?_ | refine wG ?_ | refine wT ?_ | refine wM ?_ | refine wS ?_ | refine wP ?_ | refine wJ ?_ | refine wX ?_ | refine wY ?_ | refine wZ ?_ | refine wU ?_ | refine wCp ?_ | refine wCp0 ?_ | refine wApz ?_ | (refine wCap ?_; intro qc hqc)))
          clear hF
          repeat refine evDone ?_
          try (show AW _ _ _ _ _)
          have hF := And.intro (hN) (hma)
          refine wV (hA := hc) ?_
          clear hF
          have hF := And.intro (hcc) (hN)
          repeat (first | refine wD1 ?_ | refine wD2 ?_ | refine wE1 ?_ | refine wE2 ?_ | (refine wE3 ?_; intro _) | (refine wE4 ?_; intro _) | refine wN ?_ | ((with_reducible show evIs _ (_ :: _) _ _); first | refine wQ ?_ | refine wF ?_ | refine wG ?_ | refine wT ?_ | refine wM ?_ | refine wS ?_ | refine wP ?_ | refine wJ ?_ | refine wX ?_ | refine wY ?_ | refine wZ ?_ | refine wU ?_ | refine wCp ?_ | refine wCp0 ?_ | refine wApz ?_ | (refine wCap ?_; intro qc hqc)))
          clear hF
          repeat refine evDone ?_
          try (show AW _ _ _ _ _)
          repeat refine AW.seq ?_
          refine AW.condF (by simp [hcc]) (by simp [hcc]) ?_
          refine AW.exit ?_
          show AW _ _ _ _ _
          refine AW.reg ?_
          have hF := And.intro (hw2) (hN)
          repeat ((with_reducible show evIs _ (_ :: _) _ _); first | refine wQ ?_ | refine wF ?_ | refine wG ?_ | refine wT ?_ | refine wM ?_ | refine wS ?_ | refine wP ?_)
          clear hF
          repeat refine evDone ?_
          try (show AW _ _ _ _ _)
          refine ⟨1, by omega, by omega, ?_⟩
          rw [if_neg (by omega)]
          refine Fit.mk _ _ _ (by simp [hw2, hN, conv2, newEmp, convs_refl, convs, conv]) (by simp [hw2, hN, heapFit, newEmp, conv2s, conv2, convs_refl, convs, conv]) (by intro q hq; first | (simp at hq; done) | (simp at hq; omega) | (simp at hq; simp; omega))
      · have hg1 : g = 1 := by omega
        subst hg1
        rw [if_neg (by omega)]
        repeat refine AW.seq ?_
        refine AW.reg ?_
        have hF := hN
        repeat ((with_reducible show evIs _ (_ :: _) _ _); first | refine wQ ?_ | refine wF ?_ | refine wG ?_ | refine wT ?_ | refine wM ?_ | refine wS ?_ | refine wP ?_)
        clear hF
        repeat refine evDone ?_
        try (show AW _ _ _ _ _)
        repeat refine AW.seq ?_
        refine AW.condF (by simp []) (by simp []) ?_
        refine AW.exit ?_
        refine ⟨by simp [resP, a118_res, ARes.op], [(r, ⟨1, false, [.int .i64 x, .int .i64 y]⟩), (b, ⟨1, true, [.sl .fro (ks.map .str)]⟩)], N + 500, [], ⟨by simp [hcc], rfl, rfl⟩, by omega, by simp [hN], rfl, by simp, ?_⟩
        simp only [resV, a118_res, List.map_nil]
        refine Fit.mk _ _ _ (by simp [hN, conv2, newEmp, convs_refl, convs, conv]) (by simp [hN, heapFit, newEmp, conv2s, conv2, convs_refl, convs, conv]) (by intro q hq; first | (simp at hq; done) | (simp at hq; omega) | (simp at hq; simp; omega))
theorem f97 (N r b : Nat) (hr : r < N) (hb : b < N) (hrb : r ≠ b) (ks : List ByteArray) (x y c : Int) (hc : ACall Try.prog 72 [.int .i64 y, .int .i64 x, .fptr (.sl .fro (ks.map .str)) 0] (· = .int .i64 c)) (l : Int) :
    BCall Try.prog 97 [(r, ⟨1, false, [.int .i64 x, .int .i64 y]⟩), (b, ⟨1, true, [.sl .fro (ks.map .str)]⟩)] N [.hdr r 0 2, .int .i64 0, .int .i64 2, .int .i64 l, .fn 72 [.ptr b 0 0]] (fun H1 n' v => H1 = [(r, ⟨1, false, [.int .i64 (if c < 0 then y else x), .int .i64 (if c < 0 then x else y)]⟩), (b, ⟨1, true, [.sl .fro (ks.map .str)]⟩)] ∧ n' = N + 1000 ∧ v = .tup []) := by
  have hma : ∀ (fh fq : Nat → Nat → Nat → AV) (xs : List AV), mapA fh fq (.sl .fro xs) = .sl .fro xs := fun _ _ _ => by simp [mapA]
  have hN : (b = r) = False ∧ (r = b) = False ∧ (∀ q, (b = N + q) = False) ∧ (∀ q, (N + q = b) = False) ∧ (∀ q, (r = N + q) = False) ∧ (∀ q, (N + q = r) = False) ∧ (∀ q, b < N + q) ∧ (∀ q, r < N + q) ∧ b < N ∧ r < N := by
    refine ⟨?_, ?_, ?_, ?_, ?_, ?_, ?_, ?_, ?_, ?_⟩ <;> first | exact eq_false (by omega) | exact fun q => eq_false (by omega) | exact fun q => by omega | omega
  have hw2 : IntKind.i64.wrap 2 = 2 := i64_in _ ⟨by omega, by omega⟩
  have h118 := f118 (N + 100) r b (by omega) (by omega) hrb ks x y c hc
  refine bcall_coded a97_ok (by simp) ?_
  rw [mkS_eq]
  repeat refine AW.seq ?_
  refine AW.reg ?_
  have hF := hN
  repeat ((with_reducible show evIs _ (_ :: _) _ _); first | refine wQ ?_ | refine wF ?_ | refine wG ?_ | refine wT ?_ | refine wM ?_ | refine wS ?_ | refine wP ?_)
  clear hF
  repeat refine evDone ?_
  try (show AW _ _ _ _ _)
  repeat refine AW.seq ?_
  refine AW.reg ?_
  have hF := hN
  repeat ((with_reducible show evIs _ (_ :: _) _ _); first | refine wQ ?_ | refine wF ?_ | refine wG ?_ | refine wT ?_ | refine wM ?_ | refine wS ?_ | refine wP ?_)
  clear hF
  repeat refine evDone ?_
  try (show AW _ _ _ _ _)
  repeat refine AW.seq ?_
  refine AW.block ?_
  refine AW.loop (fun g : Nat => g = 0) (fun g => mkS [(0, .hdr r 0 2), (1, .int .i64 0), (2, .int .i64 2), (3, .int .i64 l), (4, .fn 72 [.ptr b 0 0])] [(r, ⟨1, false, [.int .i64 x, .int .i64 y]⟩), (b, ⟨1, true, [.sl .fro (ks.map .str)]⟩)] (N + 50)) (fun g => g) 0 rfl ?_ ?_
  · refine Fit.mk _ _ _ (by simp [hN, conv2, newEmp, convs_refl, convs, conv]) (by simp [hN, heapFit, newEmp, conv2s, conv2, convs_refl, convs, conv]) (by intro q hq; first | (simp at hq; done) | (simp at hq; omega) | (simp at hq; simp; omega))
  · intro g hg
    repeat refine AW.seq ?_
    refine AW.block ?_
    repeat refine AW.seq ?_
    refine AW.reg ?_
    have hF := And.intro (hw2) (hN)
    repeat ((with_reducible show evIs _ (_ :: _) _ _); first | refine wQ ?_ | refine wF ?_ | refine wG ?_ | refine wT ?_ | refine wM ?_ | refine wS ?_ | refine wP ?_)
    clear hF
    repeat refine evDone ?_
    try (show AW _ _ _ _ _)
    repeat refine AW.seq ?_
    refine AW.reg ?_
    have hF := And.intro (hw2) (hN)
    repeat ((with_reducible show evIs _ (_ :: _) _ _); first | refine wQ ?_ | refine wF ?_ | refine wG ?_ | refine wT ?_ | refine wM ?_ | refine wS ?_ | refine wP ?_)
    clear hF
    repeat refine evDone ?_
    try (show AW _ _ _ _ _)
    repeat refine AW.seq ?_
    refine AW.condT (by simp []) (by simp []) ?_
    repeat refine AW.seq ?_
    refine AW.reg ?_
    have hF := hN
    repeat ((with_reducible show evIs _ (_ :: _) _ _); first | refine wQ ?_ | refine wF ?_ | refine wG ?_ | refine wT ?_ | refine wM ?_ | refine wS ?_ | refine wP ?_)
    clear hF
    repeat refine evDone ?_
    try (show AW _ _ _ _ _)
    have hF := hN
    refine wL (hA := h118) ?_
    clear hF
    rintro _ _ _ ⟨rfl, rfl, rfl⟩
    have hF := hN
    repeat ((with_reducible show evIs _ (_ :: _) _ _); first | refine wQ ?_ | refine wF ?_ | refine wG ?_ | refine wT ?_ | refine wM ?_ | refine wS ?_ | refine wP ?_)
    clear hF
    repeat refine evDone ?_
    try (show AW _ _ _ _ _)
    refine AW.ret ⟨by simp [resP, a97_res, ARes.op], [(r, ⟨1, false, [.int .i64 (if c < 0 then y else x), .int .i64 (if c < 0 then x else y)]⟩), (b, ⟨1, true, [.sl .fro (ks.map .str)]⟩)], N + 1000, [], ⟨rfl, rfl, rfl⟩, by omega, by simp [hN], rfl, by simp, ?_⟩
    simp only [resV, a97_res, List.map_nil]
    refine Fit.mk _ _ _ (by simp [hN, conv2, newEmp, convs_refl, convs, conv]) (by simp [hN, heapFit, newEmp, conv2s, conv2, convs_refl, convs, conv]) (by intro q hq; first | (simp at hq; done) | (simp at hq; omega) | (simp at hq; simp; omega))
theorem f71 (N r b : Nat) (hr : r < N) (hb : b < N) (hrb : r ≠ b) (ks : List ByteArray) (x y c : Int) (hc : ACall Try.prog 72 [.int .i64 y, .int .i64 x, .fptr (.sl .fro (ks.map .str)) 0] (· = .int .i64 c)) :
    BCall Try.prog 71 [(r, ⟨1, false, [.int .i64 x, .int .i64 y]⟩), (b, ⟨1, true, [.sl .fro (ks.map .str)]⟩)] N [.hdr r 0 2, .fn 72 [.ptr b 0 0]] (fun H1 n' v => H1 = [(r, ⟨1, false, [.int .i64 (if c < 0 then y else x), .int .i64 (if c < 0 then x else y)]⟩), (b, ⟨1, true, [.sl .fro (ks.map .str)]⟩)] ∧ n' = N + 2000 ∧ v = .tup []) := by
  have hma : ∀ (fh fq : Nat → Nat → Nat → AV) (xs : List AV), mapA fh fq (.sl .fro xs) = .sl .fro xs := fun _ _ _ => by simp [mapA]
  have hN : (b = r) = False ∧ (r = b) = False ∧ (∀ q, (b = N + q) = False) ∧ (∀ q, (N + q = b) = False) ∧ (∀ q, (r = N + q) = False) ∧ (∀ q, (N + q = r) = False) ∧ (∀ q, b < N + q) ∧ (∀ q, r < N + q) ∧ b < N ∧ r < N := by
    refine ⟨?_, ?_, ?_, ?_, ?_, ?_, ?_, ?_, ?_, ?_⟩ <;> first | exact eq_false (by omega) | exact fun q => eq_false (by omega) | exact fun q => by omega | omega
  have hw2 : IntKind.u64.wrap 2 = 2 := by decide
  have h98 := f98
  refine bcall_coded a71_ok (by simp) ?_
  rw [mkS_eq]
  repeat refine AW.seq ?_
  refine AW.reg ?_
  have hF := hN
  repeat ((with_reducible show evIs _ (_ :: _) _ _); first | refine wQ ?_ | refine wF ?_ | refine wG ?_ | refine wT ?_ | refine wM ?_ | refine wS ?_ | refine wP ?_)
  clear hF
  repeat refine evDone ?_
  try (show AW _ _ _ _ _)
  repeat refine AW.seq ?_
  refine AW.reg ?_
  have hF := And.intro (hw2) (hN)
  repeat ((with_reducible show evIs _ (_ :: _) _ _); first | refine wQ ?_ | refine wF ?_ | refine wG ?_ | refine wT ?_ | refine wM ?_ | refine wS ?_ | refine wP ?_)
  clear hF
  repeat refine evDone ?_
  try (show AW _ _ _ _ _)
  have hF := hN
  refine wI (hA := h98) ?_
  clear hF
  intro l hl
  have h97 := f97 (N + 100) r b (by omega) (by omega) hrb ks x y c hc l
  have hF := hN
  repeat ((with_reducible show evIs _ (_ :: _) _ _); first | refine wQ ?_ | refine wF ?_ | refine wG ?_ | refine wT ?_ | refine wM ?_ | refine wS ?_ | refine wP ?_)
  clear hF
  repeat refine evDone ?_
  try (show AW _ _ _ _ _)
  have hF := hN
  refine wL (hA := h97) ?_
  clear hF
  rintro _ _ _ ⟨rfl, rfl, rfl⟩
  have hF := hN
  repeat ((with_reducible show evIs _ (_ :: _) _ _); first | refine wQ ?_ | refine wF ?_ | refine wG ?_ | refine wT ?_ | refine wM ?_ | refine wS ?_ | refine wP ?_)
  clear hF
  repeat refine evDone ?_
  try (show AW _ _ _ _ _)
  refine ⟨by simp [resP, a71_res, ARes.op], [(r, ⟨1, false, [.int .i64 (if c < 0 then y else x), .int .i64 (if c < 0 then x else y)]⟩), (b, ⟨1, true, [.sl .fro (ks.map .str)]⟩)], N + 2000, [], ⟨rfl, rfl, rfl⟩, by omega, by simp [hN], rfl, by simp, ?_⟩
  simp only [resV, a71_res, List.map_nil]
  refine Fit.mk _ _ _ (by simp [hN, conv2, newEmp, convs_refl, convs, conv]) (by simp [hN, heapFit, newEmp, conv2s, conv2, convs_refl, convs, conv]) (by intro q hq; first | (simp at hq; done) | (simp at hq; omega) | (simp at hq; simp; omega))
end Go.Proofs.Ytdnpnokplfemfaa

set_option linter.unusedSimpArgs false
set_option linter.unusedVariables false
set_option maxHeartbeats 8000000
namespace Go.Proofs.Ytdnpnokplfemfaa
open Go Go.Amb Go.IntWalk

mutual
def shV : Val → Bool
  | .mk _ _ t is ks => !decide (4096 < t.size) && (!ks.any (fun s => decide (4096 < s.size)) && shsV is)
def shsV : List Val → Bool
  | [] => true
  | v :: vs => shV v && shsV vs
end
theorem shsV_any (vs : List Val) : shsV vs = !vs.any (fun x => !shV x) := by
  have h : shsV vs = vs.all shV := by
    induction vs with
    | nil => rfl
    | cons v vs ih => rw [shsV, ih]; rfl
  rw [h, List.any_eq_not_all_not]
  simp
theorem f116 (s : ByteArray) : ACall Try.prog 116 [.str s] (· = .bool (decide (4096 < s.size))) := by
  have h : decide ((4096 : Int) < (s.size : Int)) = decide (4096 < s.size) := by congr 1; apply propext; omega
  refine a116_of (by simp) ?_
  repeat refine AW.seq ?_
  refine AW.reg ?_
  have hF := True.intro
  repeat ((with_reducible show evIs _ (_ :: _) _ _); first | refine wQ ?_ | refine wF ?_ | refine wG ?_ | refine wT ?_ | refine wM ?_ | refine wS ?_ | refine wP ?_)
  clear hF
  repeat refine evDone ?_
  try (show AW _ _ _ _ _)
  repeat refine AW.seq ?_
  refine AW.reg ?_
  have hF := True.intro
  repeat ((with_reducible show evIs _ (_ :: _) _ _); first | refine wQ ?_ | refine wF ?_ | refine wG ?_ | refine wT ?_ | refine wM ?_ | refine wS ?_ | refine wP ?_)
  clear hF
  repeat refine evDone ?_
  try (show AW _ _ _ _ _)
  refine AW.ret (retI rfl ?_)
  simp [h, a116_res, resOk, resP, resV, ARes.op, R2s, R2, R1s, R1, closeOk, closeV]
theorem f117_of (x : Val) (h95 : ACall Try.prog 95 [x.av] (· = .bool (shV x))) : ACall Try.prog 117 [x.av] (· = .bool (!shV x)) := by
  obtain ⟨k, n, t, is, ks⟩ := x
  simp only [Val.av] at h95 ⊢
  refine a117_of (by simp) ?_
  repeat refine AW.seq ?_
  refine AW.reg ?_
  have hF := True.intro
  repeat ((with_reducible show evIs _ (_ :: _) _ _); first | refine wQ ?_ | refine wF ?_ | refine wG ?_ | refine wT ?_ | refine wM ?_ | refine wS ?_ | refine wP ?_)
  clear hF
  repeat refine evDone ?_
  try (show AW _ _ _ _ _)
  repeat refine AW.seq ?_
  refine AW.reg ?_
  have hF := True.intro
  repeat ((with_reducible show evIs _ (_ :: _) _ _); first | refine wQ ?_ | refine wF ?_ | refine wG ?_ | refine wT ?_ | refine wM ?_ | refine wS ?_ | refine wP ?_)
  clear hF
  repeat refine evDone ?_
  try (show AW _ _ _ _ _)
  have hF := True.intro
  refine wC (hA := h95) ?_
  clear hF
  have hF := True.intro
  repeat ((with_reducible show evIs _ (_ :: _) _ _); first | refine wQ ?_ | refine wF ?_ | refine wG ?_ | refine wT ?_ | refine wM ?_ | refine wS ?_ | refine wP ?_)
  clear hF
  repeat refine evDone ?_
  try (show AW _ _ _ _ _)
  refine AW.ret (retI rfl ?_)
  simp [a117_res, resOk, resP, resV, ARes.op, R2s, R2, R1s, R1, closeOk, closeV]
theorem f95_step (m : Nat) (ih : ∀ v : Val, v.sz < m → v.okv → ACall Try.prog 95 [v.av] (· = .bool (shV v))) (v : Val) (hm : v.sz ≤ m) (hok : v.okv) : ACall Try.prog 95 [v.av] (· = .bool (shV v)) := by
  obtain ⟨k, n, t, is, ks⟩ := v
  simp only [Val.av, Val.sz, Val.okv] at hm hok ⊢
  obtain ⟨ho1, ho2, ho3⟩ := hok
  have h115 := f115 ks (by omega) 116 [] (fun s => decide (4096 < s.size)) (fun s _ => f116 s) (by simp) (by simp)
  have h87 := f87 is (by omega) 117 [] (fun x => !shV x) (fun x hx => f117_of x (ih x (by have := szs_mem hx; omega) (okvs_mem ho3 hx))) (by simp) (by simp)
  have hany := shsV_any is
  obtain ⟨R, hR⟩ : ∃ R, R = shV (.mk k n t is ks) := ⟨_, rfl⟩
  rw [← hR]
  rw [shV, hany] at hR
  refine a95_of (by simp) ?_
  repeat refine AW.seq ?_
  refine AW.reg ?_
  have hF := True.intro
  repeat ((with_reducible show evIs _ (_ :: _) _ _); first | refine wQ ?_ | refine wF ?_ | refine wG ?_ | refine wT ?_ | refine wM ?_ | refine wS ?_ | refine wP ?_)
  clear hF
  repeat refine evDone ?_
  try (show AW _ _ _ _ _)
  repeat refine AW.seq ?_
  refine AW.reg ?_
  by_cases ht : 4096 < t.size
  case pos =>
    have hti : (4096 : Int) < (t.size : Int) := by omega
    have hfin : R = false := by rw [hR]; simp [ht]
    rw [hfin]
    have hF := hti
    repeat ((with_reducible show evIs _ (_ :: _) _ _); first | refine wQ ?_ | refine wF ?_ | refine wG ?_ | refine wT ?_ | refine wM ?_ | refine wS ?_ | refine wP ?_)
    clear hF
    repeat refine evDone ?_
    try (show AW _ _ _ _ _)
    repeat refine AW.seq ?_
    refine AW.condT (by simp [hti, ht]) (by simp [hti, ht]) ?_
    repeat refine AW.seq ?_
    refine AW.reg ?_
    have hF := True.intro
    repeat ((with_reducible show evIs _ (_ :: _) _ _); first | refine wQ ?_ | refine wF ?_ | refine wG ?_ | refine wT ?_ | refine wM ?_ | refine wS ?_ | refine wP ?_)
    clear hF
    repeat refine evDone ?_
    try (show AW _ _ _ _ _)
    refine AW.ret (retI rfl ?_)
    simp [a95_res, resOk, resP, resV, ARes.op, R2s, R2, R1s, R1, closeOk, closeV]
  have hti : ¬ (4096 : Int) < (t.size : Int) := by omega
  have hF := hti
  repeat ((with_reducible show evIs _ (_ :: _) _ _); first | refine wQ ?_ | refine wF ?_ | refine wG ?_ | refine wT ?_ | refine wM ?_ | refine wS ?_ | refine wP ?_)
  clear hF
  repeat refine evDone ?_
  try (show AW _ _ _ _ _)
  have hF := And.intro (ht) (hti)
  refine wC (hA := h115) ?_
  clear hF
  cases hk : ks.any (fun s => decide (4096 < s.size)) with
  | true =>
    have hfin : R = false := by rw [hR, hk]; simp
    rw [hfin]
    have hF := And.intro (hti) (ht)
    repeat ((with_reducible show evIs _ (_ :: _) _ _); first | refine wQ ?_ | refine wF ?_ | refine wG ?_ | refine wT ?_ | refine wM ?_ | refine wS ?_ | refine wP ?_)
    clear hF
    repeat refine evDone ?_
    try (show AW _ _ _ _ _)
    repeat refine AW.seq ?_
    refine AW.condT (by simp [hti, ht]) (by simp [hti, ht]) ?_
    repeat refine AW.seq ?_
    refine AW.reg ?_
    have hF := True.intro
    repeat ((with_reducible show evIs _ (_ :: _) _ _); first | refine wQ ?_ | refine wF ?_ | refine wG ?_ | refine wT ?_ | refine wM ?_ | refine wS ?_ | refine wP ?_)
    clear hF
    repeat refine evDone ?_
    try (show AW _ _ _ _ _)
    refine AW.ret (retI rfl ?_)
    simp [a95_res, resOk, resP, resV, ARes.op, R2s, R2, R1s, R1, closeOk, closeV]
  | false =>
    have hfin : R = !is.any (fun x => !shV x) := by rw [hR, hk]; simp [ht]
    rw [hfin]
    have hF := And.intro (hti) (ht)
    repeat ((with_reducible show evIs _ (_ :: _) _ _); first | refine wQ ?_ | refine wF ?_ | refine wG ?_ | refine wT ?_ | refine wM ?_ | refine wS ?_ | refine wP ?_)
    clear hF
    repeat refine evDone ?_
    try (show AW _ _ _ _ _)
    repeat refine AW.seq ?_
    refine AW.condF (by simp [hti, ht]) (by simp [hti, ht]) ?_
    refine AW.skip ?_
    show AW _ _ _ _ _
    repeat refine AW.seq ?_
    refine AW.reg ?_
    have hF := True.intro
    repeat ((with_reducible show evIs _ (_ :: _) _ _); first | refine wQ ?_ | refine wF ?_ | refine wG ?_ | refine wT ?_ | refine wM ?_ | refine wS ?_ | refine wP ?_)
    clear hF
    repeat refine evDone ?_
    try (show AW _ _ _ _ _)
    have hF := True.intro
    refine wC (hA := h87) ?_
    clear hF
    have hF := True.intro
    repeat ((with_reducible show evIs _ (_ :: _) _ _); first | refine wQ ?_ | refine wF ?_ | refine wG ?_ | refine wT ?_ | refine wM ?_ | refine wS ?_ | refine wP ?_)
    clear hF
    repeat refine evDone ?_
    try (show AW _ _ _ _ _)
    refine AW.ret (retI rfl ?_)
    simp [a95_res, resOk, resP, resV, ARes.op, R2s, R2, R1s, R1, closeOk, closeV]
theorem f95 (v : Val) (hok : v.okv) : ACall Try.prog 95 [v.av] (· = .bool (shV v)) := by
  have key : ∀ (m : Nat) (v : Val), v.sz ≤ m → v.okv → ACall Try.prog 95 [v.av] (· = .bool (shV v)) := by
    intro m
    induction m using Nat.strongRecOn with
    | _ m ih => exact fun v hm hok => f95_step m (fun v' h => ih v'.sz h v' (Nat.le_refl _)) v hm hok
  exact key _ v (Nat.le_refl _) hok
def winV (v : Val) : Bool := decide (v.dep ≤ 16) && (decide (v.sz ≤ 1000) && shV v)
theorem f66 (v : Val) (hok : v.okv) (hs : v.sz ≤ 1000000) : ACall Try.prog 66 [v.av] (· = .bool (winV v)) := by
  have h25 := f25 v hok hs
  have h27 := f27 v hok hs
  have h95 := f95 v hok
  obtain ⟨R, hR⟩ : ∃ R, R = winV v := ⟨_, rfl⟩
  rw [← hR]
  unfold winV at hR
  generalize v.dep = d at *
  generalize v.sz = s at *
  generalize shV v = b at *
  obtain ⟨k, n, t, is, ks⟩ := v
  simp only [Val.av] at h25 h27 h95 ⊢
  refine a66_of (by simp) ?_
  repeat refine AW.seq ?_
  refine AW.reg ?_
  have hF := True.intro
  repeat ((with_reducible show evIs _ (_ :: _) _ _); first | refine wQ ?_ | refine wF ?_ | refine wG ?_ | refine wT ?_ | refine wM ?_ | refine wS ?_ | refine wP ?_)
  clear hF
  repeat refine evDone ?_
  try (show AW _ _ _ _ _)
  repeat refine AW.seq ?_
  refine AW.reg ?_
  have hF := True.intro
  repeat ((with_reducible show evIs _ (_ :: _) _ _); first | refine wQ ?_ | refine wF ?_ | refine wG ?_ | refine wT ?_ | refine wM ?_ | refine wS ?_ | refine wP ?_)
  clear hF
  repeat refine evDone ?_
  try (show AW _ _ _ _ _)
  have hF := True.intro
  refine wC (hA := h25) ?_
  clear hF
  by_cases hd : d ≤ 16
  case neg =>
    have hdi : ¬ (d : Int) ≤ 16 := by omega
    have hfin : R = false := by rw [hR]; simp [hd]
    rw [hfin]
    have hF := And.intro (hdi) (hd)
    repeat ((with_reducible show evIs _ (_ :: _) _ _); first | refine wQ ?_ | refine wF ?_ | refine wG ?_ | refine wT ?_ | refine wM ?_ | refine wS ?_ | refine wP ?_)
    clear hF
    repeat refine evDone ?_
    try (show AW _ _ _ _ _)
    refine AW.ret (retI rfl ?_)
    simp [hd, a66_res, resOk, resP, resV, ARes.op, R2s, R2, R1s, R1, closeOk, closeV]
  have hdi : (d : Int) ≤ 16 := by omega
  have hF := And.intro (hdi) (hd)
  repeat ((with_reducible show evIs _ (_ :: _) _ _); first | refine wQ ?_ | refine wF ?_ | refine wG ?_ | refine wT ?_ | refine wM ?_ | refine wS ?_ | refine wP ?_)
  clear hF
  repeat refine evDone ?_
  try (show AW _ _ _ _ _)
  have hF := And.intro (hdi) (hd)
  refine wC (hA := h27) ?_
  clear hF
  by_cases hz : s ≤ 1000
  case neg =>
    have hzi : ¬ (s : Int) ≤ 1000 := by omega
    have hfin : R = false := by rw [hR]; simp [hz]
    rw [hfin]
    have hF := And.intro (hzi) (And.intro (hz) (And.intro (hdi) (hd)))
    repeat ((with_reducible show evIs _ (_ :: _) _ _); first | refine wQ ?_ | refine wF ?_ | refine wG ?_ | refine wT ?_ | refine wM ?_ | refine wS ?_ | refine wP ?_)
    clear hF
    repeat refine evDone ?_
    try (show AW _ _ _ _ _)
    refine AW.ret (retI rfl ?_)
    simp [hz, hd, a66_res, resOk, resP, resV, ARes.op, R2s, R2, R1s, R1, closeOk, closeV]
  have hzi : (s : Int) ≤ 1000 := by omega
  have hF := And.intro (hzi) (And.intro (hz) (And.intro (hdi) (hd)))
  repeat ((with_reducible show evIs _ (_ :: _) _ _); first | refine wQ ?_ | refine wF ?_ | refine wG ?_ | refine wT ?_ | refine wM ?_ | refine wS ?_ | refine wP ?_)
  clear hF
  repeat refine evDone ?_
  try (show AW _ _ _ _ _)
  have hF := And.intro (hzi) (And.intro (hz) (And.intro (hdi) (hd)))
  refine wC (hA := h95) ?_
  clear hF
  have hfin : R = b := by rw [hR]; simp [hz, hd]
  rw [hfin]
  have hF := And.intro (hzi) (And.intro (hz) (And.intro (hdi) (hd)))
  repeat ((with_reducible show evIs _ (_ :: _) _ _); first | refine wQ ?_ | refine wF ?_ | refine wG ?_ | refine wT ?_ | refine wM ?_ | refine wS ?_ | refine wP ?_)
  clear hF
  repeat refine evDone ?_
  try (show AW _ _ _ _ _)
  refine AW.ret (retI rfl ?_)
  simp [hz, hd, a66_res, resOk, resP, resV, ARes.op, R2s, R2, R1s, R1, closeOk, closeV]
theorem f37 (n : Int) : ACall Try.prog 37 [.int .i64 n] (· = .agg [.int .i64 2, .int .i64 n, .str ⟨#[]⟩, .sl .fro [], .sl .fro []]) := by
  refine a37_of (by simp) ?_
  repeat refine AW.seq ?_
  refine AW.reg ?_
  have hF := True.intro
  repeat ((with_reducible show evIs _ (_ :: _) _ _); first | refine wQ ?_ | refine wF ?_ | refine wG ?_ | refine wT ?_ | refine wM ?_ | refine wS ?_ | refine wP ?_)
  clear hF
  repeat refine evDone ?_
  try (show AW _ _ _ _ _)
  repeat refine AW.seq ?_
  refine AW.reg ?_
  have hF := True.intro
  repeat ((with_reducible show evIs _ (_ :: _) _ _); first | refine wQ ?_ | refine wF ?_ | refine wG ?_ | refine wT ?_ | refine wM ?_ | refine wS ?_ | refine wP ?_)
  clear hF
  repeat refine evDone ?_
  try (show AW _ _ _ _ _)
  refine AW.ret (retI rfl ?_)
  simp [a37_res, resOk, resP, resV, ARes.op, R2s, R2, R1s, R1, closeOk, closeV]
theorem f33t (s : ByteArray) : ACall Try.prog 33 [.str s] (· = .agg [.int .i64 3, .int .i64 0, .str s, .sl .fro [], .sl .fro []]) := by
  refine a33_of (by simp) ?_
  repeat refine AW.seq ?_
  refine AW.reg ?_
  have hF := True.intro
  repeat ((with_reducible show evIs _ (_ :: _) _ _); first | refine wQ ?_ | refine wF ?_ | refine wG ?_ | refine wT ?_ | refine wM ?_ | refine wS ?_ | refine wP ?_)
  clear hF
  repeat refine evDone ?_
  try (show AW _ _ _ _ _)
  repeat refine AW.seq ?_
  refine AW.reg ?_
  have hF := True.intro
  repeat ((with_reducible show evIs _ (_ :: _) _ _); first | refine wQ ?_ | refine wF ?_ | refine wG ?_ | refine wT ?_ | refine wM ?_ | refine wS ?_ | refine wP ?_)
  clear hF
  repeat refine evDone ?_
  try (show AW _ _ _ _ _)
  refine AW.ret (retI rfl ?_)
  simp [a33_res, resOk, resP, resV, ARes.op, R2s, R2, R1s, R1, closeOk, closeV]
theorem f31 (vs : List Val) (hok : okvs vs) (hb : vs.length * 80 ≤ 140737488355328) : ACall Try.prog 31 [.sl .fro (avs vs)] (· = .agg [.int .i64 4, .int .i64 0, .str ⟨#[]⟩, .sl .fro (avs vs), .sl .fro []]) := by
  have h64 := f64 vs hok hb
  have hc := clC_avs vs
  refine a31_of (by simp) ?_
  repeat refine AW.seq ?_
  refine AW.reg ?_
  have hF := True.intro
  repeat ((with_reducible show evIs _ (_ :: _) _ _); first | refine wQ ?_ | refine wF ?_ | refine wG ?_ | refine wT ?_ | refine wM ?_ | refine wS ?_ | refine wP ?_)
  clear hF
  repeat refine evDone ?_
  try (show AW _ _ _ _ _)
  repeat refine AW.seq ?_
  refine AW.reg ?_
  have hF := True.intro
  repeat ((with_reducible show evIs _ (_ :: _) _ _); first | refine wQ ?_ | refine wF ?_ | refine wG ?_ | refine wT ?_ | refine wM ?_ | refine wS ?_ | refine wP ?_)
  clear hF
  repeat refine evDone ?_
  try (show AW _ _ _ _ _)
  have hF := hc
  refine wC (hA := h64) ?_
  clear hF
  have hF := True.intro
  repeat ((with_reducible show evIs _ (_ :: _) _ _); first | refine wQ ?_ | refine wF ?_ | refine wG ?_ | refine wT ?_ | refine wM ?_ | refine wS ?_ | refine wP ?_)
  clear hF
  repeat refine evDone ?_
  try (show AW _ _ _ _ _)
  refine AW.ret (retI rfl ?_)
  simp [a31_res, resOk, resP, resV, ARes.op, R2s, R2, R1s, R1, closeOk, closeV]
end Go.Proofs.Ytdnpnokplfemfaa

set_option linter.unusedSimpArgs false
set_option linter.unusedVariables false
set_option maxHeartbeats 8000000
namespace Go.Proofs.Ytdnpnokplfemfaa
open Go Go.Amb Go.IntWalk

theorem f29e (p q : ByteArray) (hpq : p = q) : ACall Try.prog 29 [.sl .fro [.str p, .str q], .sl .fro [.agg [.int .i64 2, .int .i64 1, .str ⟨#[]⟩, .sl .fro [], .sl .fro []], .agg [.int .i64 2, .int .i64 2, .str ⟨#[]⟩, .sl .fro [], .sl .fro []]]] (· = .tup [.agg [.int .i64 0, .int .i64 0, .str ⟨#[]⟩, .sl .fro [], .sl .fro []], .int .i64 9]) := by
  have hw2 : IntKind.i64.wrap 2 = 2 := by decide
  have hw1 : IntKind.i64.wrap 1 = 1 := by decide
  have hw0 : IntKind.i64.wrap 0 = 0 := by decide
  have h72 : ACall Try.prog 72 [.int .i64 1, .int .i64 0, .fptr (.sl .fro ([p, q].map .str)) 0] (· = .int .i64 (cmpS q p)) := f72 [p, q] 1 0 q p rfl rfl
  have hma : (∀ (fh fq : Nat → Nat → Nat → AV) (cs : List AV), mapA fh fq (.agg cs) = .agg (cs.map (mapA fh fq))) ∧ (∀ (fh fq : Nat → Nat → Nat → AV) (r o n : Nat), mapA fh fq (.hdr r o n) = fh r o n) ∧ (∀ (fh fq : Nat → Nat → Nat → AV) (n : Int), mapA fh fq (.int .i64 n) = .int .i64 n) ∧ (∀ (fh fq : Nat → Nat → Nat → AV) (n : ByteArray), mapA fh fq (.str n) = .str n) := by
    refine ⟨?_, ?_, ?_, ?_⟩ <;> intros <;> simp [mapA, mapAs_eq]
  refine a29_of (by simp) ?_
  repeat refine AW.seq ?_
  refine AW.reg ?_
  have hF := True.intro
  repeat ((with_reducible show evIs _ (_ :: _) _ _); first | refine wQ ?_ | refine wF ?_ | refine wG ?_ | refine wT ?_ | refine wM ?_ | refine wS ?_ | refine wP ?_)
  clear hF
  repeat refine evDone ?_
  try (show AW _ _ _ _ _)
  repeat refine AW.seq ?_
  refine AW.reg ?_
  have hF := True.intro
  repeat ((with_reducible show evIs _ (_ :: _) _ _); first | refine wQ ?_ | refine wF ?_ | refine wG ?_ | refine wT ?_ | refine wM ?_ | refine wS ?_ | refine wP ?_)
  clear hF
  repeat refine evDone ?_
  try (show AW _ _ _ _ _)
  repeat refine AW.seq ?_
  refine AW.condF (by simp []) (by simp []) ?_
  refine AW.skip ?_
  show AW _ _ _ _ _
  repeat refine AW.seq ?_
  refine AW.reg ?_
  have hF := True.intro
  repeat (first | refine wD1 ?_ | refine wD2 ?_ | refine wE1 ?_ | refine wE2 ?_ | (refine wE3 ?_; intro _) | (refine wE4 ?_; intro _) | refine wN ?_ | ((with_reducible show evIs _ (_ :: _) _ _); first | refine wQ ?_ | refine wF ?_ | refine wG ?_ | refine wT ?_ | refine wM ?_ | refine wS ?_ | refine wP ?_ | refine wJ ?_ | refine wX ?_ | refine wY ?_ | refine wZ ?_ | refine wU ?_ | refine wCp ?_ | refine wCp0 ?_ | refine wApz ?_ | (refine wCap ?_; intro qc hqc)))
  clear hF
  repeat refine evDone ?_
  try (show AW _ _ _ _ _)
  repeat refine AW.seq ?_
  refine AW.reg ?_
  have hF := True.intro
  repeat ((with_reducible show evIs _ (_ :: _) _ _); first | refine wQ ?_ | refine wF ?_ | refine wG ?_ | refine wT ?_ | refine wM ?_ | refine wS ?_ | refine wP ?_)
  clear hF
  repeat refine evDone ?_
  try (show AW _ _ _ _ _)
  have hsg : ((if cmpS q p < 0 then (1 : Int) else 0) = 0) ∧ ((if cmpS q p < 0 then (0 : Int) else 1) = 1) := by rw [cmpS_zero.2 hpq.symm]; simp
  repeat refine AW.seq ?_
  refine AW.block ?_
  refine AW.loop (fun g : Nat => g ≤ 2) (fun g => mkS [(1, .sl .fro [.agg [.int .i64 2, .int .i64 1, .str ⟨#[]⟩, .sl .fro [], .sl .fro []], .agg [.int .i64 2, .int .i64 2, .str ⟨#[]⟩, .sl .fro [], .sl .fro []]]), (2, .ptr 0 0 0), (4, .ptr 1 0 0), (5, .int .i64 0), (6, .hdr 13 0 2), (21, .int .i64 2), (22, .int .i64 g)] [(0, ⟨1, true, [.sl .fro [.str p, .str q]]⟩), (1, ⟨5, true, [.agg [.int .i64 0, .int .i64 0, .str ⟨#[]⟩, .sl .ext [], .sl .ext []]]⟩), (13, ⟨1, false, [.int .i64 0, .int .i64 (if g = 2 then 1 else 0)]⟩)] 60) (fun g => 2 - g) 0 (by omega) ?_ ?_
  · refine Fit.mk _ _ _ (by simp [conv2, newEmp, convs_refl, convs, conv]) (by simp [heapFit, newEmp, conv2s, conv2, convs_refl, convs, conv]) (by intro q hq; first | (simp at hq; done) | (simp at hq; omega) | (simp at hq; simp; omega))
  intro g hg
  have hg3 : g = 0 ∨ g = 1 ∨ g = 2 := by omega
  rcases hg3 with rfl | rfl | rfl
  · repeat refine AW.seq ?_
    refine AW.reg ?_
    have hF := True.intro
    repeat ((with_reducible show evIs _ (_ :: _) _ _); first | refine wQ ?_ | refine wF ?_ | refine wG ?_ | refine wT ?_ | refine wM ?_ | refine wS ?_ | refine wP ?_)
    clear hF
    repeat refine evDone ?_
    try (show AW _ _ _ _ _)
    repeat refine AW.seq ?_
    refine AW.condT (by simp []) (by simp []) ?_
    refine AW.skip ?_
    show AW _ _ _ _ _
    refine AW.seq (AW.block ?_)
    repeat refine AW.seq ?_
    refine AW.reg ?_
    have hF := True.intro
    repeat ((with_reducible show evIs _ (_ :: _) _ _); first | refine wQ ?_ | refine wF ?_ | refine wG ?_ | refine wT ?_ | refine wM ?_ | refine wS ?_ | refine wP ?_)
    clear hF
    repeat refine evDone ?_
    try (show AW _ _ _ _ _)
    repeat refine AW.seq ?_
    refine AW.reg ?_
    have hF := True.intro
    repeat ((with_reducible show evIs _ (_ :: _) _ _); first | refine wQ ?_ | refine wF ?_ | refine wG ?_ | refine wT ?_ | refine wM ?_ | refine wS ?_ | refine wP ?_)
    clear hF
    repeat refine evDone ?_
    try (show AW _ _ _ _ _)
    refine AW.reg ?_
    have hF := hw1
    repeat ((with_reducible show evIs _ (_ :: _) _ _); first | refine wQ ?_ | refine wF ?_ | refine wG ?_ | refine wT ?_ | refine wM ?_ | refine wS ?_ | refine wP ?_)
    clear hF
    repeat refine evDone ?_
    try (show AW _ _ _ _ _)
    refine ⟨1, by omega, by omega, ?_⟩
    refine Fit.mk _ _ _ (by simp [hw1, conv2, newEmp, convs_refl, convs, conv]) (by simp [hw1, heapFit, newEmp, conv2s, conv2, convs_refl, convs, conv]) (by intro q hq; first | (simp at hq; done) | (simp at hq; omega) | (simp at hq; simp; omega))
  · repeat refine AW.seq ?_
    refine AW.reg ?_
    have hF := True.intro
    repeat ((with_reducible show evIs _ (_ :: _) _ _); first | refine wQ ?_ | refine wF ?_ | refine wG ?_ | refine wT ?_ | refine wM ?_ | refine wS ?_ | refine wP ?_)
    clear hF
    repeat refine evDone ?_
    try (show AW _ _ _ _ _)
    repeat refine AW.seq ?_
    refine AW.condT (by simp []) (by simp []) ?_
    refine AW.skip ?_
    show AW _ _ _ _ _
    refine AW.seq (AW.block ?_)
    repeat refine AW.seq ?_
    refine AW.reg ?_
    have hF := True.intro
    repeat ((with_reducible show evIs _ (_ :: _) _ _); first | refine wQ ?_ | refine wF ?_ | refine wG ?_ | refine wT ?_ | refine wM ?_ | refine wS ?_ | refine wP ?_)
    clear hF
    repeat refine evDone ?_
    try (show AW _ _ _ _ _)
    repeat refine AW.seq ?_
    refine AW.reg ?_
    have hF := True.intro
    repeat ((with_reducible show evIs _ (_ :: _) _ _); first | refine wQ ?_ | refine wF ?_ | refine wG ?_ | refine wT ?_ | refine wM ?_ | refine wS ?_ | refine wP ?_)
    clear hF
    repeat refine evDone ?_
    try (show AW _ _ _ _ _)
    refine AW.reg ?_
    have hF := hw2
    repeat ((with_reducible show evIs _ (_ :: _) _ _); first | refine wQ ?_ | refine wF ?_ | refine wG ?_ | refine wT ?_ | refine wM ?_ | refine wS ?_ | refine wP ?_)
    clear hF
    repeat refine evDone ?_
    try (show AW _ _ _ _ _)
    refine ⟨2, by omega, by omega, ?_⟩
    refine Fit.mk _ _ _ (by simp [hw2, conv2, newEmp, convs_refl, convs, conv]) (by simp [hw2, heapFit, newEmp, conv2s, conv2, convs_refl, convs, conv]) (by intro q hq; first | (simp at hq; done) | (simp at hq; omega) | (simp at hq; simp; omega))
  repeat refine AW.seq ?_
  refine AW.reg ?_
  have hF := True.intro
  repeat ((with_reducible show evIs _ (_ :: _) _ _); first | refine wQ ?_ | refine wF ?_ | refine wG ?_ | refine wT ?_ | refine wM ?_ | refine wS ?_ | refine wP ?_)
  clear hF
  repeat refine evDone ?_
  try (show AW _ _ _ _ _)
  repeat refine AW.seq ?_
  refine AW.condF (by simp []) (by simp []) ?_
  refine AW.exit ?_
  show AW _ _ _ _ _
  have h71 := f71 100 13 0 (by omega) (by omega) (by omega) [p, q] 0 1 (cmpS q p) h72
  simp only [List.map_cons, List.map_nil, hsg] at h71
  repeat refine AW.seq ?_
  refine AW.reg ?_
  have hF := True.intro
  repeat ((with_reducible show evIs _ (_ :: _) _ _); first | refine wQ ?_ | refine wF ?_ | refine wG ?_ | refine wT ?_ | refine wM ?_ | refine wS ?_ | refine wP ?_)
  clear hF
  repeat refine evDone ?_
  try (show AW _ _ _ _ _)
  have hF := True.intro
  refine wL (hA := h71) ?_
  clear hF
  rintro _ _ _ ⟨rfl, rfl, rfl⟩
  have hF := True.intro
  repeat ((with_reducible show evIs _ (_ :: _) _ _); first | refine wQ ?_ | refine wF ?_ | refine wG ?_ | refine wT ?_ | refine wM ?_ | refine wS ?_ | refine wP ?_)
  clear hF
  repeat refine evDone ?_
  try (show AW _ _ _ _ _)
  repeat refine AW.seq ?_
  refine AW.reg ?_
  have hF := True.intro
  repeat ((with_reducible show evIs _ (_ :: _) _ _); first | refine wQ ?_ | refine wF ?_ | refine wG ?_ | refine wT ?_ | refine wM ?_ | refine wS ?_ | refine wP ?_)
  clear hF
  repeat refine evDone ?_
  try (show AW _ _ _ _ _)
  repeat refine AW.seq ?_
  refine AW.reg ?_
  have hF := True.intro
  repeat ((with_reducible show evIs _ (_ :: _) _ _); first | refine wQ ?_ | refine wF ?_ | refine wG ?_ | refine wT ?_ | refine wM ?_ | refine wS ?_ | refine wP ?_)
  clear hF
  repeat refine evDone ?_
  try (show AW _ _ _ _ _)
  repeat refine AW.seq ?_
  refine AW.block ?_
  have h20a : ACall Try.prog 20 [.agg [.int .i64 2, .int .i64 1, .str ⟨#[]⟩, .sl .fro [], .sl .fro []]] (· = .agg [.int .i64 2, .int .i64 1, .str ⟨#[]⟩, .sl .fro [], .sl .fro []]) := f20 2 1 ⟨#[]⟩ [] [] ⟨by simp, by simp, trivial⟩
  have h20b : ACall Try.prog 20 [.agg [.int .i64 2, .int .i64 2, .str ⟨#[]⟩, .sl .fro [], .sl .fro []]] (· = .agg [.int .i64 2, .int .i64 2, .str ⟨#[]⟩, .sl .fro [], .sl .fro []]) := f20 2 2 ⟨#[]⟩ [] [] ⟨by simp, by simp, trivial⟩
  refine AW.loop (fun g : Nat => g ≤ 1) (fun g => if g = 0 then mkS [(1, .sl .fro [.agg [.int .i64 2, .int .i64 1, .str ⟨#[]⟩, .sl .fro [], .sl .fro []], .agg [.int .i64 2, .int .i64 2, .str ⟨#[]⟩, .sl .fro [], .sl .fro []]]), (2, .ptr 0 0 0), (4, .ptr 1 0 0), (5, .int .i64 0), (6, .hdr 13 0 2), (8, .ptr 92 0 0), (34, .hdr 13 0 2), (35, .int .i64 2), (36, .int .i64 0)] [(0, ⟨1, true, [.sl .fro [.str p, .str q]]⟩), (1, ⟨5, true, [.agg [.int .i64 0, .int .i64 0, .str ⟨#[]⟩, .sl .ext [], .sl .ext []]]⟩), (13, ⟨1, false, [.int .i64 0, .int .i64 1]⟩), (92, ⟨5, true, [.agg [.int .i64 5, .int .i64 0, .str ⟨#[]⟩, .sl .ext [], .sl .ext []]]⟩)] 3000 else if g = 1 then mkS [(1, .sl .fro [.agg [.int .i64 2, .int .i64 1, .str ⟨#[]⟩, .sl .fro [], .sl .fro []], .agg [.int .i64 2, .int .i64 2, .str ⟨#[]⟩, .sl .fro [], .sl .fro []]]), (2, .ptr 0 0 0), (4, .ptr 1 0 0), (5, .int .i64 0), (6, .hdr 13 0 2), (8, .ptr 92 0 0), (34, .hdr 13 0 2), (35, .int .i64 2), (36, .int .i64 1)] [(0, ⟨1, true, [.sl .fro [.str p, .str q]]⟩), (1, ⟨5, true, [.agg [.int .i64 0, .int .i64 0, .str ⟨#[]⟩, .sl .ext [], .sl .ext []]]⟩), (13, ⟨1, false, [.int .i64 0, .int .i64 1]⟩), (92, ⟨5, true, [.agg [.int .i64 5, .int .i64 0, .str ⟨#[]⟩, .hdr 3081 0 1, .hdr 3070 0 1]]⟩), (3081, ⟨5, false, [.agg [.int .i64 2, .int .i64 1, .str ⟨#[]⟩, .sl .fro [], .sl .fro []]]⟩), (3070, ⟨1, false, [.str p]⟩)] 4000 else mkS [(1, .sl .fro [.agg [.int .i64 2, .int .i64 1, .str ⟨#[]⟩, .sl .fro [], .sl .fro []], .agg [.int .i64 2, .int .i64 2, .str ⟨#[]⟩, .sl .fro [], .sl .fro []]]), (2, .ptr 0 0 0), (4, .ptr 1 0 0), (5, .int .i64 0), (6, .hdr 13 0 2), (8, .ptr 92 0 0), (34, .hdr 13 0 2), (35, .int .i64 2), (36, .int .i64 2)] [(0, ⟨1, true, [.sl .fro [.str p, .str q]]⟩), (1, ⟨5, true, [.agg [.int .i64 0, .int .i64 0, .str ⟨#[]⟩, .sl .ext [], .sl .ext []]]⟩), (13, ⟨1, false, [.int .i64 0, .int .i64 1]⟩), (92, ⟨5, true, [.agg [.int .i64 5, .int .i64 0, .str ⟨#[]⟩, .hdr 4081 0 2, .hdr 4070 0 2]]⟩), (4081, ⟨5, false, [.agg [.int .i64 2, .int .i64 1, .str ⟨#[]⟩, .sl .fro [], .sl .fro []], .agg [.int .i64 2, .int .i64 2, .str ⟨#[]⟩, .sl .fro [], .sl .fro []]]⟩), (4070, ⟨1, false, [.str p, .str q]⟩)] 5000) (fun g => 2 - g) 0 (by omega) ?_ ?_
  · rw [if_pos rfl]
    refine Fit.mk _ _ _ (by simp [conv2, newEmp, convs_refl, convs, conv]) (by simp [heapFit, newEmp, conv2s, conv2, convs_refl, convs, conv]) (by intro q hq; first | (simp at hq; done) | (simp at hq; omega) | (simp at hq; simp; omega))
  intro g hg
  have hg3 : g = 0 ∨ g = 1 := by omega
  rcases hg3 with rfl | rfl
  · rw [if_pos rfl]
    repeat refine AW.seq ?_
    refine AW.reg ?_
    have hF := True.intro
    repeat ((with_reducible show evIs _ (_ :: _) _ _); first | refine wQ ?_ | refine wF ?_ | refine wG ?_ | refine wT ?_ | refine wM ?_ | refine wS ?_ | refine wP ?_)
    clear hF
    repeat refine evDone ?_
    try (show AW _ _ _ _ _)
    repeat refine AW.seq ?_
    refine AW.condT (by simp []) (by simp []) ?_
    refine AW.skip ?_
    show AW _ _ _ _ _
    refine AW.seq (AW.block ?_)
    repeat refine AW.seq ?_
    refine AW.reg ?_
    have hF := True.intro
    repeat ((with_reducible show evIs _ (_ :: _) _ _); first | refine wQ ?_ | refine wF ?_ | refine wG ?_ | refine wT ?_ | refine wM ?_ | refine wS ?_ | refine wP ?_)
    clear hF
    repeat refine evDone ?_
    try (show AW _ _ _ _ _)
    repeat refine AW.seq ?_
    refine AW.draw ?_
    have hF := True.intro
    repeat (first | refine wD1 ?_ | refine wD2 ?_ | refine wE1 ?_ | refine wE2 ?_ | refine wE6 ?_ | refine wE7 ?_ | refine wE5 ?_ | refine wN ?_ | ((with_reducible show evIs _ (_ :: _) _ _); first | refine wQ ?_ | refine wF ?_ | refine wG ?_ | refine wT ?_ | refine wM ?_ | refine wS ?_ | refine wP ?_ | refine wJ ?_ | refine wX ?_ | refine wY ?_ | refine wZ ?_ | refine wU ?_ | refine wCp ?_ | refine wCp0 ?_ | refine wApz ?_ | (refine wCap ?_; intro qc hqc)))
    clear hF
    repeat refine evDone ?_
    try (show AW _ _ _ _ _)
    repeat refine AW.seq ?_
    refine AW.condF (by simp []) (by simp []) ?_
    refine AW.skip ?_
    show AW _ _ _ _ _
    repeat refine AW.seq ?_
    refine AW.draw ?_
    have hF := True.intro
    repeat (first | refine wD1 ?_ | refine wD2 ?_ | refine wE1 ?_ | refine wE2 ?_ | (refine wE3 ?_; intro _) | (refine wE4 ?_; intro _) | refine wN ?_ | ((with_reducible show evIs _ (_ :: _) _ _); first | refine wQ ?_ | refine wF ?_ | refine wG ?_ | refine wT ?_ | refine wM ?_ | refine wS ?_ | refine wP ?_ | refine wJ ?_ | refine wX ?_ | refine wY ?_ | refine wZ ?_ | refine wU ?_ | refine wCp ?_ | refine wCp0 ?_ | refine wApz ?_ | (refine wCap ?_; intro qc hqc)))
    clear hF
    repeat refine evDone ?_
    try (show AW _ _ _ _ _)
    repeat refine AW.seq ?_
    refine AW.draw ?_
    have hF := True.intro
    repeat (first | refine wD1 ?_ | refine wD2 ?_ | refine wE1 ?_ | refine wE2 ?_ | (refine wE3 ?_; intro _) | (refine wE4 ?_; intro _) | refine wN ?_ | ((with_reducible show evIs _ (_ :: _) _ _); first | refine wQ ?_ | refine wF ?_ | refine wG ?_ | refine wT ?_ | refine wM ?_ | refine wS ?_ | refine wP ?_ | refine wJ ?_ | refine wX ?_ | refine wY ?_ | refine wZ ?_ | refine wU ?_ | refine wCp ?_ | refine wCp0 ?_ | refine wApz ?_ | (refine wCap ?_; intro qc hqc)))
    clear hF
    repeat refine evDone ?_
    try (show AW _ _ _ _ _)
    have hF := True.intro
    refine wC (hA := h20a) ?_
    clear hF
    have hF := True.intro
    repeat (first | refine wD1 ?_ | refine wD2 ?_ | refine wE1 ?_ | refine wE2 ?_ | (refine wE3 ?_; intro _) | (refine wE4 ?_; intro _) | refine wN ?_ | ((with_reducible show evIs _ (_ :: _) _ _); first | refine wQ ?_ | refine wF ?_ | refine wG ?_ | refine wT ?_ | refine wM ?_ | refine wS ?_ | refine wP ?_ | refine wJ ?_ | refine wX ?_ | refine wY ?_ | refine wZ ?_ | refine wU ?_ | refine wCp ?_ | refine wCp0 ?_ | refine wApz ?_ | (refine wCap ?_; intro qc hqc)))
    clear hF
    repeat refine evDone ?_
    try (show AW _ _ _ _ _)
    refine AW.reg ?_
    have hF := hw1
    repeat ((with_reducible show evIs _ (_ :: _) _ _); first | refine wQ ?_ | refine wF ?_ | refine wG ?_ | refine wT ?_ | refine wM ?_ | refine wS ?_ | refine wP ?_)
    clear hF
    repeat refine evDone ?_
    try (show AW _ _ _ _ _)
    refine ⟨1, by omega, by omega, ?_⟩
    rw [if_neg (by omega), if_pos rfl]
    refine Fit.mk _ _ _ (by simp [hw1, conv2, newEmp, convs_refl, convs, conv]) (by simp [hw1, heapFit, newEmp, conv2s, conv2, convs_refl, convs, conv]) (by intro q hq; first | (simp at hq; done) | (simp at hq; omega) | (simp at hq; simp; omega))
  · rw [if_neg (by omega), if_pos rfl]
    repeat refine AW.seq ?_
    refine AW.reg ?_
    have hF := True.intro
    repeat ((with_reducible show evIs _ (_ :: _) _ _); first | refine wQ ?_ | refine wF ?_ | refine wG ?_ | refine wT ?_ | refine wM ?_ | refine wS ?_ | refine wP ?_)
    clear hF
    repeat refine evDone ?_
    try (show AW _ _ _ _ _)
    repeat refine AW.seq ?_
    refine AW.condT (by simp []) (by simp []) ?_
    refine AW.skip ?_
    show AW _ _ _ _ _
    refine AW.seq (AW.block ?_)
    repeat refine AW.seq ?_
    refine AW.reg ?_
    have hF := True.intro
    repeat ((with_reducible show evIs _ (_ :: _) _ _); first | refine wQ ?_ | refine wF ?_ | refine wG ?_ | refine wT ?_ | refine wM ?_ | refine wS ?_ | refine wP ?_)
    clear hF
    repeat refine evDone ?_
    try (show AW _ _ _ _ _)
    repeat refine AW.seq ?_
    refine AW.draw ?_
    have hF := And.intro (hw0) (hpq)
    repeat (first | refine wD1 ?_ | refine wD2 ?_ | refine wE1 ?_ | refine wE2 ?_ | (refine wE3 ?_; intro _) | (refine wE4 ?_; intro _) | refine wN ?_ | ((with_reducible show evIs _ (_ :: _) _ _); first | refine wQ ?_ | refine wF ?_ | refine wG ?_ | refine wT ?_ | refine wM ?_ | refine wS ?_ | refine wP ?_ | refine wJ ?_ | refine wX ?_ | refine wY ?_ | refine wZ ?_ | refine wU ?_ | refine wCp ?_ | refine wCp0 ?_ | refine wApz ?_ | (refine wCap ?_; intro qc hqc)))
    clear hF
    repeat refine evDone ?_
    try (show AW _ _ _ _ _)
    repeat refine AW.seq ?_
    refine AW.condT (by simp [hpq]) (by simp [hpq]) ?_
    repeat refine AW.seq ?_
    refine AW.reg ?_
    have hF := True.intro
    repeat ((with_reducible show evIs _ (_ :: _) _ _); first | refine wQ ?_ | refine wF ?_ | refine wG ?_ | refine wT ?_ | refine wM ?_ | refine wS ?_ | refine wP ?_)
    clear hF
    repeat refine evDone ?_
    try (show AW _ _ _ _ _)
    refine AW.ret (retI rfl ?_)
    simp [a29_res, resOk, resP, resV, ARes.op, R2s, R2, R1s, R1, closeOk, closeV]
theorem f29g (p q : ByteArray) (hpq : cmpS q p < 0) (hne : ¬ p = q) (hp : p.size ≤ 4096) (hq : q.size ≤ 4096) : ACall Try.prog 29 [.sl .fro [.str p, .str q], .sl .fro [.agg [.int .i64 2, .int .i64 1, .str ⟨#[]⟩, .sl .fro [], .sl .fro []], .agg [.int .i64 2, .int .i64 2, .str ⟨#[]⟩, .sl .fro [], .sl .fro []]]] (· = .tup [.agg [.int .i64 5, .int .i64 0, .str ⟨#[]⟩, .sl (.own 5) [.agg [.int .i64 2, .int .i64 2, .str ⟨#[]⟩, .sl .fro [], .sl .fro []], .agg [.int .i64 2, .int .i64 1, .str ⟨#[]⟩, .sl .fro [], .sl .fro []]], .sl (.own 1) [.str q, .str p]], .int .i64 0]) := by
  have hw2 : IntKind.i64.wrap 2 = 2 := by decide
  have hw1 : IntKind.i64.wrap 1 = 1 := by decide
  have hw0 : IntKind.i64.wrap 0 = 0 := by decide
  have h72 : ACall Try.prog 72 [.int .i64 1, .int .i64 0, .fptr (.sl .fro ([p, q].map .str)) 0] (· = .int .i64 (cmpS q p)) := f72 [p, q] 1 0 q p rfl rfl
  have hma : (∀ (fh fq : Nat → Nat → Nat → AV) (cs : List AV), mapA fh fq (.agg cs) = .agg (cs.map (mapA fh fq))) ∧ (∀ (fh fq : Nat → Nat → Nat → AV) (r o n : Nat), mapA fh fq (.hdr r o n) = fh r o n) ∧ (∀ (fh fq : Nat → Nat → Nat → AV) (n : Int), mapA fh fq (.int .i64 n) = .int .i64 n) ∧ (∀ (fh fq : Nat → Nat → Nat → AV) (n : ByteArray), mapA fh fq (.str n) = .str n) := by
    refine ⟨?_, ?_, ?_, ?_⟩ <;> intros <;> simp [mapA, mapAs_eq]
  refine a29_of (by simp) ?_
  repeat refine AW.seq ?_
  refine AW.reg ?_
  have hF := True.intro
  repeat ((with_reducible show evIs _ (_ :: _) _ _); first | refine wQ ?_ | refine wF ?_ | refine wG ?_ | refine wT ?_ | refine wM ?_ | refine wS ?_ | refine wP ?_)
  clear hF
  repeat refine evDone ?_
  try (show AW _ _ _ _ _)
  repeat refine AW.seq ?_
  refine AW.reg ?_
  have hF := True.intro
  repeat ((with_reducible show evIs _ (_ :: _) _ _); first | refine wQ ?_ | refine wF ?_ | refine wG ?_ | refine wT ?_ | refine wM ?_ | refine wS ?_ | refine wP ?_)
  clear hF
  repeat refine evDone ?_
  try (show AW _ _ _ _ _)
  repeat refine AW.seq ?_
  refine AW.condF (by simp []) (by simp []) ?_
  refine AW.skip ?_
  show AW _ _ _ _ _
  repeat refine AW.seq ?_
  refine AW.reg ?_
  have hF := True.intro
  repeat (first | refine wD1 ?_ | refine wD2 ?_ | refine wE1 ?_ | refine wE2 ?_ | (refine wE3 ?_; intro _) | (refine wE4 ?_; intro _) | refine wN ?_ | ((with_reducible show evIs _ (_ :: _) _ _); first | refine wQ ?_ | refine wF ?_ | refine wG ?_ | refine wT ?_ | refine wM ?_ | refine wS ?_ | refine wP ?_ | refine wJ ?_ | refine wX ?_ | refine wY ?_ | refine wZ ?_ | refine wU ?_ | refine wCp ?_ | refine wCp0 ?_ | refine wApz ?_ | (refine wCap ?_; intro qc hqc)))
  clear hF
  repeat refine evDone ?_
  try (show AW _ _ _ _ _)
  repeat refine AW.seq ?_
  refine AW.reg ?_
  have hF := True.intro
  repeat ((with_reducible show evIs _ (_ :: _) _ _); first | refine wQ ?_ | refine wF ?_ | refine wG ?_ | refine wT ?_ | refine wM ?_ | refine wS ?_ | refine wP ?_)
  clear hF
  repeat refine evDone ?_
  try (show AW _ _ _ _ _)
  have hsg : ((if cmpS q p < 0 then (1 : Int) else 0) = 1) ∧ ((if cmpS q p < 0 then (0 : Int) else 1) = 0) := by simp [hpq]
  have hne' : ¬ q = p := fun e => hne e.symm
  have h66 : ACall Try.prog 66 [.agg [.int .i64 5, .int .i64 0, .str ⟨#[]⟩, .sl .fro [.agg [.int .i64 2, .int .i64 2, .str ⟨#[]⟩, .sl .fro [], .sl .fro []], .agg [.int .i64 2, .int .i64 1, .str ⟨#[]⟩, .sl .fro [], .sl .fro []]], .sl .fro [.str q, .str p]]] (· = .bool true) := by
    have h := f66 (.mk 5 0 ⟨#[]⟩ [.mk 2 2 ⟨#[]⟩ [] [], .mk 2 1 ⟨#[]⟩ [] []] [q, p]) ⟨by simp, by simp, ⟨by simp, by simp, trivial⟩, ⟨by simp, by simp, trivial⟩, trivial⟩ (by simp [Val.sz, szs])
    have hw : winV (.mk 5 0 ⟨#[]⟩ [.mk 2 2 ⟨#[]⟩ [] [], .mk 2 1 ⟨#[]⟩ [] []] [q, p]) = true := by
      have e : (⟨#[]⟩ : ByteArray).size = 0 := rfl
      simp [winV, Val.dep, deps, Val.sz, szs, shV, shsV, hp, hq, e]
    rw [hw] at h
    simpa [Val.av, avs] using h
  repeat refine AW.seq ?_
  refine AW.block ?_
  refine AW.loop (fun g : Nat => g ≤ 2) (fun g => mkS [(1, .sl .fro [.agg [.int .i64 2, .int .i64 1, .str ⟨#[]⟩, .sl .fro [], .sl .fro []], .agg [.int .i64 2, .int .i64 2, .str ⟨#[]⟩, .sl .fro [], .sl .fro []]]), (2, .ptr 0 0 0), (4, .ptr 1 0 0), (5, .int .i64 0), (6, .hdr 13 0 2), (21, .int .i64 2), (22, .int .i64 g)] [(0, ⟨1, true, [.sl .fro [.str p, .str q]]⟩), (1, ⟨5, true, [.agg [.int .i64 0, .int .i64 0, .str ⟨#[]⟩, .sl .ext [], .sl .ext []]]⟩), (13, ⟨1, false, [.int .i64 0, .int .i64 (if g = 2 then 1 else 0)]⟩)] 60) (fun g => 2 - g) 0 (by omega) ?_ ?_
  · refine Fit.mk _ _ _ (by simp [conv2, newEmp, convs_refl, convs, conv]) (by simp [heapFit, newEmp, conv2s, conv2, convs_refl, convs, conv]) (by intro q hq; first | (simp at hq; done) | (simp at hq; omega) | (simp at hq; simp; omega))
  intro g hg
  have hg3 : g = 0 ∨ g = 1 ∨ g = 2 := by omega
  rcases hg3 with rfl | rfl | rfl
  · repeat refine AW.seq ?_
    refine AW.reg ?_
    have hF := True.intro
    repeat ((with_reducible show evIs _ (_ :: _) _ _); first | refine wQ ?_ | refine wF ?_ | refine wG ?_ | refine wT ?_ | refine wM ?_ | refine wS ?_ | refine wP ?_)
    clear hF
    repeat refine evDone ?_
    try (show AW _ _ _ _ _)
    repeat refine AW.seq ?_
    refine AW.condT (by simp []) (by simp []) ?_
    refine AW.skip ?_
    show AW _ _ _ _ _
    refine AW.seq (AW.block ?_)
    repeat refine AW.seq ?_
    refine AW.reg ?_
    have hF := True.intro
    repeat ((with_reducible show evIs _ (_ :: _) _ _); first | refine wQ ?_ | refine wF ?_ | refine wG ?_ | refine wT ?_ | refine wM ?_ | refine wS ?_ | refine wP ?_)
    clear hF
    repeat refine evDone ?_
    try (show AW _ _ _ _ _)
    repeat refine AW.seq ?_
    refine AW.reg ?_
    have hF := True.intro
    repeat ((with_reducible show evIs _ (_ :: _) _ _); first | refine wQ ?_ | refine wF ?_ | refine wG ?_ | refine wT ?_ | refine wM ?_ | refine wS ?_ | refine wP ?_)
    clear hF
    repeat refine evDone ?_
    try (show AW _ _ _ _ _)
    refine AW.reg ?_
    have hF := hw1
    repeat ((with_reducible show evIs _ (_ :: _) _ _); first | refine wQ ?_ | refine wF ?_ | refine wG ?_ | refine wT ?_ | refine wM ?_ | refine wS ?_ | refine wP ?_)
    clear hF
    repeat refine evDone ?_
    try (show AW _ _ _ _ _)
    refine ⟨1, by omega, by omega, ?_⟩
    refine Fit.mk _ _ _ (by simp [hw1, conv2, newEmp, convs_refl, convs, conv]) (by simp [hw1, heapFit, newEmp, conv2s, conv2, convs_refl, convs, conv]) (by intro q hq; first | (simp at hq; done) | (simp at hq; omega) | (simp at hq; simp; omega))
  · repeat refine AW.seq ?_
    refine AW.reg ?_
    have hF := True.intro
    repeat ((with_reducible show evIs _ (_ :: _) _ _); first | refine wQ ?_ | refine wF ?_ | refine wG ?_ | refine wT ?_ | refine wM ?_ | refine wS ?_ | refine wP ?_)
    clear hF
    repeat refine evDone ?_
    try (show AW _ _ _ _ _)
    repeat refine AW.seq ?_
    refine AW.condT (by simp []) (by simp []) ?_
    refine AW.skip ?_
    show AW _ _ _ _ _
    refine AW.seq (AW.block ?_)
    repeat refine AW.seq ?_
    refine AW.reg ?_
    have hF := True.intro
    repeat ((with_reducible show evIs _ (_ :: _) _ _); first | refine wQ ?_ | refine wF ?_ | refine wG ?_ | refine wT ?_ | refine wM ?_ | refine wS ?_ | refine wP ?_)
    clear hF
    repeat refine evDone ?_
    try (show AW _ _ _ _ _)
    repeat refine AW.seq ?_
    refine AW.reg ?_
    have hF := True.intro
    repeat ((with_reducible show evIs _ (_ :: _) _ _); first | refine wQ ?_ | refine wF ?_ | refine wG ?_ | refine wT ?_ | refine wM ?_ | refine wS ?_ | refine wP ?_)
    clear hF
    repeat refine evDone ?_
    try (show AW _ _ _ _ _)
    refine AW.reg ?_
    have hF := hw2
    repeat ((with_reducible show evIs _ (_ :: _) _ _); first | refine wQ ?_ | refine wF ?_ | refine wG ?_ | refine wT ?_ | refine wM ?_ | refine wS ?_ | refine wP ?_)
    clear hF
    repeat refine evDone ?_
    try (show AW _ _ _ _ _)
    refine ⟨2, by omega, by omega, ?_⟩
    refine Fit.mk _ _ _ (by simp [hw2, conv2, newEmp, convs_refl, convs, conv]) (by simp [hw2, heapFit, newEmp, conv2s, conv2, convs_refl, convs, conv]) (by intro q hq; first | (simp at hq; done) | (simp at hq; omega) | (simp at hq; simp; omega))
  repeat refine AW.seq ?_
  refine AW.reg ?_
  have hF := True.intro
  repeat ((with_reducible show evIs _ (_ :: _) _ _); first | refine wQ ?_ | refine wF ?_ | refine wG ?_ | refine wT ?_ | refine wM ?_ | refine wS ?_ | refine wP ?_)
  clear hF
  repeat refine evDone ?_
  try (show AW _ _ _ _ _)
  repeat refine AW.seq ?_
  refine AW.condF (by simp []) (by simp []) ?_
  refine AW.exit ?_
  show AW _ _ _ _ _
  have h71 := f71 100 13 0 (by omega) (by omega) (by omega) [p, q] 0 1 (cmpS q p) h72
  simp only [List.map_cons, List.map_nil, hsg] at h71
  repeat refine AW.seq ?_
  refine AW.reg ?_
  have hF := True.intro
  repeat ((with_reducible show evIs _ (_ :: _) _ _); first | refine wQ ?_ | refine wF ?_ | refine wG ?_ | refine wT ?_ | refine wM ?_ | refine wS ?_ | refine wP ?_)
  clear hF
  repeat refine evDone ?_
  try (show AW _ _ _ _ _)
  have hF := True.intro
  refine wL (hA := h71) ?_
  clear hF
  rintro _ _ _ ⟨rfl, rfl, rfl⟩
  have hF := True.intro
  repeat ((with_reducible show evIs _ (_ :: _) _ _); first | refine wQ ?_ | refine wF ?_ | refine wG ?_ | refine wT ?_ | refine wM ?_ | refine wS ?_ | refine wP ?_)
  clear hF
  repeat refine evDone ?_
  try (show AW _ _ _ _ _)
  repeat refine AW.seq ?_
  refine AW.reg ?_
  have hF := True.intro
  repeat ((with_reducible show evIs _ (_ :: _) _ _); first | refine wQ ?_ | refine wF ?_ | refine wG ?_ | refine wT ?_ | refine wM ?_ | refine wS ?_ | refine wP ?_)
  clear hF
  repeat refine evDone ?_
  try (show AW _ _ _ _ _)
  repeat refine AW.seq ?_
  refine AW.reg ?_
  have hF := True.intro
  repeat ((with_reducible show evIs _ (_ :: _) _ _); first | refine wQ ?_ | refine wF ?_ | refine wG ?_ | refine wT ?_ | refine wM ?_ | refine wS ?_ | refine wP ?_)
  clear hF
  repeat refine evDone ?_
  try (show AW _ _ _ _ _)
  repeat refine AW.seq ?_
  refine AW.block ?_
  have h20a : ACall Try.prog 20 [.agg [.int .i64 2, .int .i64 1, .str ⟨#[]⟩, .sl .fro [], .sl .fro []]] (· = .agg [.int .i64 2, .int .i64 1, .str ⟨#[]⟩, .sl .fro [], .sl .fro []]) := f20 2 1 ⟨#[]⟩ [] [] ⟨by simp, by simp, trivial⟩
  have h20b : ACall Try.prog 20 [.agg [.int .i64 2, .int .i64 2, .str ⟨#[]⟩, .sl .fro [], .sl .fro []]] (· = .agg [.int .i64 2, .int .i64 2, .str ⟨#[]⟩, .sl .fro [], .sl .fro []]) := f20 2 2 ⟨#[]⟩ [] [] ⟨by simp, by simp, trivial⟩
  refine AW.loop (fun g : Nat => g ≤ 2) (fun g => if g = 0 then mkS [(1, .sl .fro [.agg [.int .i64 2, .int .i64 1, .str ⟨#[]⟩, .sl .fro [], .sl .fro []], .agg [.int .i64 2, .int .i64 2, .str ⟨#[]⟩, .sl .fro [], .sl .fro []]]), (2, .ptr 0 0 0), (4, .ptr 1 0 0), (5, .int .i64 0), (6, .hdr 13 0 2), (8, .ptr 92 0 0), (34, .hdr 13 0 2), (35, .int .i64 2), (36, .int .i64 0)] [(0, ⟨1, true, [.sl .fro [.str p, .str q]]⟩), (1, ⟨5, true, [.agg [.int .i64 0, .int .i64 0, .str ⟨#[]⟩, .sl .ext [], .sl .ext []]]⟩), (13, ⟨1, false, [.int .i64 1, .int .i64 0]⟩), (92, ⟨5, true, [.agg [.int .i64 5, .int .i64 0, .str ⟨#[]⟩, .sl .ext [], .sl .ext []]]⟩)] 3000 else if g = 1 then mkS [(1, .sl .fro [.agg [.int .i64 2, .int .i64 1, .str ⟨#[]⟩, .sl .fro [], .sl .fro []], .agg [.int .i64 2, .int .i64 2, .str ⟨#[]⟩, .sl .fro [], .sl .fro []]]), (2, .ptr 0 0 0), (4, .ptr 1 0 0), (5, .int .i64 0), (6, .hdr 13 0 2), (8, .ptr 92 0 0), (34, .hdr 13 0 2), (35, .int .i64 2), (36, .int .i64 1)] [(0, ⟨1, true, [.sl .fro [.str p, .str q]]⟩), (1, ⟨5, true, [.agg [.int .i64 0, .int .i64 0, .str ⟨#[]⟩, .sl .ext [], .sl .ext []]]⟩), (13, ⟨1, false, [.int .i64 1, .int .i64 0]⟩), (92, ⟨5, true, [.agg [.int .i64 5, .int .i64 0, .str ⟨#[]⟩, .hdr 3081 0 1, .hdr 3070 0 1]]⟩), (3081, ⟨5, false, [.agg [.int .i64 2, .int .i64 2, .str ⟨#[]⟩, .sl .fro [], .sl .fro []]]⟩), (3070, ⟨1, false, [.str q]⟩)] 4000 else mkS [(1, .sl .fro [.agg [.int .i64 2, .int .i64 1, .str ⟨#[]⟩, .sl .fro [], .sl .fro []], .agg [.int .i64 2, .int .i64 2, .str ⟨#[]⟩, .sl .fro [], .sl .fro []]]), (2, .ptr 0 0 0), (4, .ptr 1 0 0), (5, .int .i64 0), (6, .hdr 13 0 2), (8, .ptr 92 0 0), (34, .hdr 13 0 2), (35, .int .i64 2), (36, .int .i64 2)] [(0, ⟨1, true, [.sl .fro [.str p, .str q]]⟩), (1, ⟨5, true, [.agg [.int .i64 0, .int .i64 0, .str ⟨#[]⟩, .sl .ext [], .sl .ext []]]⟩), (13, ⟨1, false, [.int .i64 1, .int .i64 0]⟩), (92, ⟨5, true, [.agg [.int .i64 5, .int .i64 0, .str ⟨#[]⟩, .hdr 4081 0 2, .hdr 4070 0 2]]⟩), (4081, ⟨5, false, [.agg [.int .i64 2, .int .i64 2, .str ⟨#[]⟩, .sl .fro [], .sl .fro []], .agg [.int .i64 2, .int .i64 1, .str ⟨#[]⟩, .sl .fro [], .sl .fro []]]⟩), (4070, ⟨1, false, [.str q, .str p]⟩)] 5000) (fun g => 2 - g) 0 (by omega) ?_ ?_
  · rw [if_pos rfl]
    refine Fit.mk _ _ _ (by simp [conv2, newEmp, convs_refl, convs, conv]) (by simp [heapFit, newEmp, conv2s, conv2, convs_refl, convs, conv]) (by intro q hq; first | (simp at hq; done) | (simp at hq; omega) | (simp at hq; simp; omega))
  intro g hg
  have hg3 : g = 0 ∨ g = 1 ∨ g = 2 := by omega
  rcases hg3 with rfl | rfl | rfl
  · rw [if_pos rfl]
    repeat refine AW.seq ?_
    refine AW.reg ?_
    have hF := True.intro
    repeat ((with_reducible show evIs _ (_ :: _) _ _); first | refine wQ ?_ | refine wF ?_ | refine wG ?_ | refine wT ?_ | refine wM ?_ | refine wS ?_ | refine wP ?_)
    clear hF
    repeat refine evDone ?_
    try (show AW _ _ _ _ _)
    repeat refine AW.seq ?_
    refine AW.condT (by simp []) (by simp []) ?_
    refine AW.skip ?_
    show AW _ _ _ _ _
    refine AW.seq (AW.block ?_)
    repeat refine AW.seq ?_
    refine AW.reg ?_
    have hF := True.intro
    repeat ((with_reducible show evIs _ (_ :: _) _ _); first | refine wQ ?_ | refine wF ?_ | refine wG ?_ | refine wT ?_ | refine wM ?_ | refine wS ?_ | refine wP ?_)
    clear hF
    repeat refine evDone ?_
    try (show AW _ _ _ _ _)
    repeat refine AW.seq ?_
    refine AW.draw ?_
    have hF := True.intro
    repeat (first | refine wD1 ?_ | refine wD2 ?_ | refine wE1 ?_ | refine wE2 ?_ | refine wE6 ?_ | refine wE7 ?_ | refine wE5 ?_ | refine wN ?_ | ((with_reducible show evIs _ (_ :: _) _ _); first | refine wQ ?_ | refine wF ?_ | refine wG ?_ | refine wT ?_ | refine wM ?_ | refine wS ?_ | refine wP ?_ | refine wJ ?_ | refine wX ?_ | refine wY ?_ | refine wZ ?_ | refine wU ?_ | refine wCp ?_ | refine wCp0 ?_ | refine wApz ?_ | (refine wCap ?_; intro qc hqc)))
    clear hF
    repeat refine evDone ?_
    try (show AW _ _ _ _ _)
    repeat refine AW.seq ?_
    refine AW.condF (by simp []) (by simp []) ?_
    refine AW.skip ?_
    show AW _ _ _ _ _
    repeat refine AW.seq ?_
    refine AW.draw ?_
    have hF := True.intro
    repeat (first | refine wD1 ?_ | refine wD2 ?_ | refine wE1 ?_ | refine wE2 ?_ | (refine wE3 ?_; intro _) | (refine wE4 ?_; intro _) | refine wN ?_ | ((with_reducible show evIs _ (_ :: _) _ _); first | refine wQ ?_ | refine wF ?_ | refine wG ?_ | refine wT ?_ | refine wM ?_ | refine wS ?_ | refine wP ?_ | refine wJ ?_ | refine wX ?_ | refine wY ?_ | refine wZ ?_ | refine wU ?_ | refine wCp ?_ | refine wCp0 ?_ | refine wApz ?_ | (refine wCap ?_; intro qc hqc)))
    clear hF
    repeat refine evDone ?_
    try (show AW _ _ _ _ _)
    repeat refine AW.seq ?_
    refine AW.draw ?_
    have hF := True.intro
    repeat (first | refine wD1 ?_ | refine wD2 ?_ | refine wE1 ?_ | refine wE2 ?_ | (refine wE3 ?_; intro _) | (refine wE4 ?_; intro _) | refine wN ?_ | ((with_reducible show evIs _ (_ :: _) _ _); first | refine wQ ?_ | refine wF ?_ | refine wG ?_ | refine wT ?_ | refine wM ?_ | refine wS ?_ | refine wP ?_ | refine wJ ?_ | refine wX ?_ | refine wY ?_ | refine wZ ?_ | refine wU ?_ | refine wCp ?_ | refine wCp0 ?_ | refine wApz ?_ | (refine wCap ?_; intro qc hqc)))
    clear hF
    repeat refine evDone ?_
    try (show AW _ _ _ _ _)
    have hF := True.intro
    refine wC (hA := h20b) ?_
    clear hF
    have hF := True.intro
    repeat (first | refine wD1 ?_ | refine wD2 ?_ | refine wE1 ?_ | refine wE2 ?_ | (refine wE3 ?_; intro _) | (refine wE4 ?_; intro _) | refine wN ?_ | ((with_reducible show evIs _ (_ :: _) _ _); first | refine wQ ?_ | refine wF ?_ | refine wG ?_ | refine wT ?_ | refine wM ?_ | refine wS ?_ | refine wP ?_ | refine wJ ?_ | refine wX ?_ | refine wY ?_ | refine wZ ?_ | refine wU ?_ | refine wCp ?_ | refine wCp0 ?_ | refine wApz ?_ | (refine wCap ?_; intro qc hqc)))
    clear hF
    repeat refine evDone ?_
    try (show AW _ _ _ _ _)
    refine AW.reg ?_
    have hF := hw1
    repeat ((with_reducible show evIs _ (_ :: _) _ _); first | refine wQ ?_ | refine wF ?_ | refine wG ?_ | refine wT ?_ | refine wM ?_ | refine wS ?_ | refine wP ?_)
    clear hF
    repeat refine evDone ?_
    try (show AW _ _ _ _ _)
    refine ⟨1, by omega, by omega, ?_⟩
    rw [if_neg (by omega), if_pos rfl]
    refine Fit.mk _ _ _ (by simp [hw1, conv2, newEmp, convs_refl, convs, conv]) (by simp [hw1, heapFit, newEmp, conv2s, conv2, convs_refl, convs, conv]) (by intro q hq; first | (simp at hq; done) | (simp at hq; omega) | (simp at hq; simp; omega))
  · rw [if_neg (by omega), if_pos rfl]
    repeat refine AW.seq ?_
    refine AW.reg ?_
    have hF := True.intro
    repeat ((with_reducible show evIs _ (_ :: _) _ _); first | refine wQ ?_ | refine wF ?_ | refine wG ?_ | refine wT ?_ | refine wM ?_ | refine wS ?_ | refine wP ?_)
    clear hF
    repeat refine evDone ?_
    try (show AW _ _ _ _ _)
    repeat refine AW.seq ?_
    refine AW.condT (by simp []) (by simp []) ?_
    refine AW.skip ?_
    show AW _ _ _ _ _
    refine AW.seq (AW.block ?_)
    repeat refine AW.seq ?_
    refine AW.reg ?_
    have hF := True.intro
    repeat ((with_reducible show evIs _ (_ :: _) _ _); first | refine wQ ?_ | refine wF ?_ | refine wG ?_ | refine wT ?_ | refine wM ?_ | refine wS ?_ | refine wP ?_)
    clear hF
    repeat refine evDone ?_
    try (show AW _ _ _ _ _)
    repeat refine AW.seq ?_
    refine AW.draw ?_
    have hF := And.intro (hw0) (hne')
    repeat (first | refine wD1 ?_ | refine wD2 ?_ | refine wE1 ?_ | refine wE2 ?_ | (refine wE3 ?_; intro _) | (refine wE4 ?_; intro _) | refine wN ?_ | ((with_reducible show evIs _ (_ :: _) _ _); first | refine wQ ?_ | refine wF ?_ | refine wG ?_ | refine wT ?_ | refine wM ?_ | refine wS ?_ | refine wP ?_ | refine wJ ?_ | refine wX ?_ | refine wY ?_ | refine wZ ?_ | refine wU ?_ | refine wCp ?_ | refine wCp0 ?_ | refine wApz ?_ | (refine wCap ?_; intro qc hqc)))
    clear hF
    repeat refine evDone ?_
    try (show AW _ _ _ _ _)
    repeat refine AW.seq ?_
    refine AW.condF (by simp [hne']) (by simp [hne']) ?_
    refine AW.skip ?_
    show AW _ _ _ _ _
    repeat refine AW.seq ?_
    refine AW.draw ?_
    have hF := True.intro
    repeat (first | refine wD1 ?_ | refine wD2 ?_ | refine wE1 ?_ | refine wE2 ?_ | (refine wE3 ?_; intro _) | (refine wE4 ?_; intro _) | refine wN ?_ | ((with_reducible show evIs _ (_ :: _) _ _); first | refine wQ ?_ | refine wF ?_ | refine wG ?_ | refine wT ?_ | refine wM ?_ | refine wS ?_ | refine wP ?_ | refine wJ ?_ | refine wX ?_ | refine wY ?_ | refine wZ ?_ | refine wU ?_ | refine wCp ?_ | refine wCp0 ?_ | refine wApz ?_ | (refine wCap ?_; intro qc hqc)))
    clear hF
    repeat refine evDone ?_
    try (show AW _ _ _ _ _)
    repeat refine AW.seq ?_
    refine AW.draw ?_
    have hF := True.intro
    repeat (first | refine wD1 ?_ | refine wD2 ?_ | refine wE1 ?_ | refine wE2 ?_ | (refine wE3 ?_; intro _) | (refine wE4 ?_; intro _) | refine wN ?_ | ((with_reducible show evIs _ (_ :: _) _ _); first | refine wQ ?_ | refine wF ?_ | refine wG ?_ | refine wT ?_ | refine wM ?_ | refine wS ?_ | refine wP ?_ | refine wJ ?_ | refine wX ?_ | refine wY ?_ | refine wZ ?_ | refine wU ?_ | refine wCp ?_ | refine wCp0 ?_ | refine wApz ?_ | (refine wCap ?_; intro qc hqc)))
    clear hF
    repeat refine evDone ?_
    try (show AW _ _ _ _ _)
    have hF := True.intro
    refine wC (hA := h20a) ?_
    clear hF
    have hF := True.intro
    repeat (first | refine wD1 ?_ | refine wD2 ?_ | refine wE1 ?_ | refine wE2 ?_ | (refine wE3 ?_; intro _) | (refine wE4 ?_; intro _) | refine wN ?_ | ((with_reducible show evIs _ (_ :: _) _ _); first | refine wQ ?_ | refine wF ?_ | refine wG ?_ | refine wT ?_ | refine wM ?_ | refine wS ?_ | refine wP ?_ | refine wJ ?_ | refine wX ?_ | refine wY ?_ | refine wZ ?_ | refine wU ?_ | refine wCp ?_ | refine wCp0 ?_ | refine wApz ?_ | (refine wCap ?_; intro qc hqc)))
    clear hF
    repeat refine evDone ?_
    try (show AW _ _ _ _ _)
    refine AW.reg ?_
    have hF := hw2
    repeat ((with_reducible show evIs _ (_ :: _) _ _); first | refine wQ ?_ | refine wF ?_ | refine wG ?_ | refine wT ?_ | refine wM ?_ | refine wS ?_ | refine wP ?_)
    clear hF
    repeat refine evDone ?_
    try (show AW _ _ _ _ _)
    refine ⟨2, by omega, by omega, ?_⟩
    rw [if_neg (by omega), if_neg (by omega)]
    refine Fit.mk _ _ _ (by simp [hw2, conv2, newEmp, convs_refl, convs, conv]) (by simp [hw2, heapFit, newEmp, conv2s, conv2, convs_refl, convs, conv]) (by intro q hq; first | (simp at hq; done) | (simp at hq; omega) | (simp at hq; simp; omega))
  · rw [if_neg (by omega), if_neg (by omega)]
    repeat refine AW.seq ?_
    refine AW.reg ?_
    have hF := True.intro
    repeat ((with_reducible show evIs _ (_ :: _) _ _); first | refine wQ ?_ | refine wF ?_ | refine wG ?_ | refine wT ?_ | refine wM ?_ | refine wS ?_ | refine wP ?_)
    clear hF
    repeat refine evDone ?_
    try (show AW _ _ _ _ _)
    repeat refine AW.seq ?_
    refine AW.condF (by simp []) (by simp []) ?_
    refine AW.exit ?_
    show AW _ _ _ _ _
    repeat refine AW.seq ?_
    refine AW.reg ?_
    have hF := True.intro
    repeat ((with_reducible show evIs _ (_ :: _) _ _); first | refine wQ ?_ | refine wF ?_ | refine wG ?_ | refine wT ?_ | refine wM ?_ | refine wS ?_ | refine wP ?_)
    clear hF
    repeat refine evDone ?_
    try (show AW _ _ _ _ _)
    have hF := hma
    refine wC (hA := h66) ?_
    clear hF
    have hF := True.intro
    repeat ((with_reducible show evIs _ (_ :: _) _ _); first | refine wQ ?_ | refine wF ?_ | refine wG ?_ | refine wT ?_ | refine wM ?_ | refine wS ?_ | refine wP ?_)
    clear hF
    repeat refine evDone ?_
    try (show AW _ _ _ _ _)
    repeat refine AW.seq ?_
    refine AW.condF (by simp []) (by simp []) ?_
    refine AW.skip ?_
    show AW _ _ _ _ _
    repeat refine AW.seq ?_
    refine AW.reg ?_
    have hF := True.intro
    repeat ((with_reducible show evIs _ (_ :: _) _ _); first | refine wQ ?_ | refine wF ?_ | refine wG ?_ | refine wT ?_ | refine wM ?_ | refine wS ?_ | refine wP ?_)
    clear hF
    repeat refine evDone ?_
    try (show AW _ _ _ _ _)
    refine AW.ret (retI rfl ?_)
    simp [a29_res, resOk, resP, resV, ARes.op, R2s, R2, R1s, R1, closeOk, closeV]
end Go.Proofs.Ytdnpnokplfemfaa

set_option linter.unusedSimpArgs false
set_option linter.unusedVariables false
set_option maxHeartbeats 8000000
namespace Go.Proofs.Ytdnpnokplfemfaa
open Go Go.Amb Go.IntWalk

abbrev by8 (ns : List Int) : List AV := ns.map (AV.int .u8)
theorem f61 (xs : List AV) (hu : ∀ x ∈ xs, (cellsOf x).length = 1) (hb : xs.length ≤ 140737488355328) (hl : xs.length ≤ 9223372036854775807) : ACall Try.prog 61 [.sl .fro xs] (· = .sl (.own 1) xs) := by
  refine a61_of (by simp) ?_
  repeat refine AW.seq ?_
  refine AW.reg ?_
  have hF := True.intro
  repeat ((with_reducible show evIs _ (_ :: _) _ _); first | refine wQ ?_ | refine wF ?_ | refine wG ?_ | refine wT ?_ | refine wM ?_ | refine wS ?_ | refine wP ?_)
  clear hF
  repeat refine evDone ?_
  try (show AW _ _ _ _ _)
  repeat refine AW.seq ?_
  refine AW.reg ?_
  have hF := True.intro
  repeat ((with_reducible show evIs _ (_ :: _) _ _); first | refine wQ ?_ | refine wF ?_ | refine wG ?_ | refine wT ?_ | refine wM ?_ | refine wS ?_ | refine wP ?_)
  clear hF
  repeat refine evDone ?_
  try (show AW _ _ _ _ _)
  refine evZ rfl rfl rfl (by conv => lhs; simp) (by simp) rfl ?_
  intro b hbz
  show AW _ _ _ _ _
  cases b
  · repeat refine AW.seq ?_
    refine AW.condF (by simp []) (by simp []) ?_
    refine AW.skip ?_
    show AW _ _ _ _ _
    repeat refine AW.seq ?_
    refine AW.reg ?_
    have hF := And.intro (hb) (And.intro (hl) (eq_true hu))
    repeat ((with_reducible show evIs _ (_ :: _) _ _); first | refine wQ ?_ | refine wF ?_ | refine wG ?_ | refine wT ?_ | refine wM ?_ | refine wS ?_ | refine wP ?_)
    clear hF
    repeat refine evDone ?_
    try (show AW _ _ _ _ _)
    refine AW.ret (retI rfl ?_)
    simp [a61_res, resOk, resP, resV, ARes.op, R2s, R2, R1s, R1, closeOk, closeV]
  · have hx : xs = [] := List.length_eq_zero_iff.1 (by simpa [lenOf] using hbz)
    subst hx
    repeat refine AW.seq ?_
    refine AW.condT (by simp []) (by simp []) ?_
    repeat refine AW.seq ?_
    refine AW.reg ?_
    have hF := True.intro
    repeat ((with_reducible show evIs _ (_ :: _) _ _); first | refine wQ ?_ | refine wF ?_ | refine wG ?_ | refine wT ?_ | refine wM ?_ | refine wS ?_ | refine wP ?_)
    clear hF
    repeat refine evDone ?_
    try (show AW _ _ _ _ _)
    refine AW.ret (retI rfl ?_)
    simp [a61_res, resOk, resP, resV, ARes.op, R2s, R2, R1s, R1, closeOk, closeV]
/-- The unsigned number that is written for n. -/
def zz (n : Int) : Int := IntKind.u64.wrap ↑((IntKind.u64.wrap (IntKind.u64.wrap n * 2 ^ min 1 IntKind.u64.bits) % 2 ^ IntKind.u64.bits).toNat ^^^ (IntKind.u64.wrap (n.fdiv (2 ^ min 63 IntKind.i64.bits)) % 2 ^ IntKind.u64.bits).toNat)
def lowB (u : Int) : Int := IntKind.u8.wrap u
def contB (u : Int) : Int := IntKind.u8.wrap ↑((IntKind.u8.wrap u % 2 ^ IntKind.u8.bits).toNat ||| 128 % 2 ^ IntKind.u8.bits)
def shr7 (u : Int) : Int := u.fdiv (2 ^ min 7 IntKind.u64.bits)
def varF : Nat → Int → List Int
  | 0, u => [lowB u]
  | m + 1, u => if u ≥ 128 then contB u :: varF m (shr7 u) else [lowB u]
def intB (n : Int) : List Int := varF 10 (zz n)
theorem zz_range (n : Int) : 0 ≤ zz n ∧ zz n < 18446744073709551616 := by
  unfold zz
  generalize (((_ : Nat) : Int)) = z
  simp only [IntKind.wrap, IntKind.bits, IntKind.signed, Bool.false_and, Bool.false_eq_true, if_false]
  omega
theorem shr7_lt {u : Int} {m : Nat} (h0 : 0 ≤ u) (h1 : u < 128 ^ (m + 1)) : 0 ≤ shr7 u ∧ shr7 u < 128 ^ m := by
  have he : shr7 u = u / 128 := by
    show u.fdiv 128 = _
    rw [Int.fdiv_eq_ediv_of_nonneg _ (by decide)]
  rw [he, Int.pow_succ] at *
  constructor
  · omega
  · omega
theorem f91 (bs : List Int) (n : Int) (hb : bs.length ≤ 140737488355000) : ACall Try.prog 91 [.sl .fro (by8 bs), .int .i64 n] (· = .sl (.own 1) (by8 (bs ++ intB n))) := by
  have h61 := f61 (by8 bs) (by simp) (by simp; omega) (by simp; omega)
  have hzz : zz n = IntKind.u64.wrap ↑((IntKind.u64.wrap (IntKind.u64.wrap n * 2 ^ min 1 IntKind.u64.bits) % 2 ^ IntKind.u64.bits).toNat ^^^ (IntKind.u64.wrap (n.fdiv (2 ^ min 63 IntKind.i64.bits)) % 2 ^ IntKind.u64.bits).toNat) := rfl
  have hz := zz_range n
  refine b91_of (by simp) ?_
  repeat refine AW.seq ?_
  refine AW.reg ?_
  have hF := True.intro
  repeat ((with_reducible show evIs _ (_ :: _) _ _); first | refine wQ ?_ | refine wF ?_ | refine wG ?_ | refine wT ?_ | refine wM ?_ | refine wS ?_ | refine wP ?_)
  clear hF
  repeat refine evDone ?_
  try (show AW _ _ _ _ _)
  repeat refine AW.seq ?_
  refine AW.reg ?_
  have hF := True.intro
  repeat ((with_reducible show evIs _ (_ :: _) _ _); first | refine wQ ?_ | refine wF ?_ | refine wG ?_ | refine wT ?_ | refine wM ?_ | refine wS ?_ | refine wP ?_)
  clear hF
  repeat refine evDone ?_
  try (show AW _ _ _ _ _)
  have hF := True.intro
  refine wA (hA := h61) ?_
  clear hF
  have hF := True.intro
  repeat ((with_reducible show evIs _ (_ :: _) _ _); first | refine wQ ?_ | refine wF ?_ | refine wG ?_ | refine wT ?_ | refine wM ?_ | refine wS ?_ | refine wP ?_)
  clear hF
  repeat refine evDone ?_
  try (show AW _ _ _ _ _)
  repeat refine AW.seq ?_
  refine AW.reg ?_
  have hzs := hzz.symm
  have hF := hzs
  repeat ((with_reducible show evIs _ (_ :: _) _ _); first | refine wQ ?_ | refine wF ?_ | refine wG ?_ | refine wT ?_ | refine wM ?_ | refine wS ?_ | refine wP ?_)
  clear hF
  repeat refine evDone ?_
  try (show AW _ _ _ _ _)
  unfold intB
  generalize zz n = u0 at *
  obtain ⟨T, hT⟩ : ∃ T, T = bs ++ varF 10 u0 := ⟨_, rfl⟩
  rw [← hT]
  clear hzz
  repeat refine AW.seq ?_
  refine AW.block ?_
  refine AW.loop (fun g : Nat × List Int × Int × Nat × Nat => 0 ≤ g.2.2.1 ∧ g.2.2.1 < 128 ^ g.1 ∧ g.2.1 ++ varF g.1 g.2.2.1 = T ∧ g.2.1.length + g.1 ≤ bs.length + 10 ∧ g.2.2.2.2 < g.2.2.2.1) (fun g => mkS [(5, .hdr g.2.2.2.2 0 g.2.1.length), (6, .int .u64 g.2.2.1)] [(g.2.2.2.2, ⟨1, false, by8 g.2.1⟩)] g.2.2.2.1) (fun g => g.1) (10, bs, u0, 30, 2) ⟨hz.1, by have := hz.2; simp only; omega, hT.symm, by simp, by simp⟩ ?_ ?_
  · refine Fit.mk _ _ _ (by simp [conv2, newEmp, convs_refl, convs, conv]) (by simp [heapFit, newEmp, conv2s, conv2, convs_refl, convs, conv]) (by intro q hq; first | (simp at hq; done) | (simp at hq; omega) | (simp at hq; simp; omega))
  rintro ⟨m, acc, u, nx, r⟩ ⟨hu0, hu1, hv, hlen, hr⟩
  dsimp only at hu0 hu1 hv hlen hr ⊢
  have hN : (∀ q, (r = nx + q) = False) ∧ (∀ q, (nx + q = r) = False) ∧ (∀ q, r < nx + q) ∧ (∀ q, (nx + q < nx) = False) := by
    refine ⟨?_, ?_, ?_, ?_⟩ <;> first | exact fun q => eq_false (by omega) | exact fun q => by omega
  have hby : acc.length + 1 ≤ 140737488355328 := by omega
  have hby2 : acc.length + 1 ≤ 9223372036854775807 := by omega
  repeat refine AW.seq ?_
  refine AW.reg ?_
  by_cases hge : 128 ≤ u
  · obtain ⟨m, rfl⟩ : ∃ m', m = m' + 1 := by
      cases m with
      | zero => simp at hu1; omega
      | succ m => exact ⟨m, rfl⟩
    have hv2 : (acc ++ [contB u]) ++ varF m (shr7 u) = T := by rw [← hv, varF, if_pos hge]; simp
    have hs := shr7_lt hu0 hu1
    have hc : contB u = IntKind.u8.wrap ↑((IntKind.u8.wrap u % 2 ^ IntKind.u8.bits).toNat ||| 128 % 2 ^ IntKind.u8.bits) := rfl
    have hsh : shr7 u = u.fdiv (2 ^ min 7 IntKind.u64.bits) := rfl
    have hF := hge
    repeat ((with_reducible show evIs _ (_ :: _) _ _); first | refine wQ ?_ | refine wF ?_ | refine wG ?_ | refine wT ?_ | refine wM ?_ | refine wS ?_ | refine wP ?_)
    clear hF
    repeat refine evDone ?_
    try (show AW _ _ _ _ _)
    repeat refine AW.seq ?_
    refine AW.condT (by simp [hge]) (by simp [hge]) ?_
    refine AW.skip ?_
    show AW _ _ _ _ _
    refine AW.block ?_
    repeat refine AW.seq ?_
    refine AW.reg ?_
    have hF := And.intro (hby) (And.intro (hby2) (hN))
    repeat ((with_reducible show evIs _ (_ :: _) _ _); first | refine wQ ?_ | refine wF ?_ | refine wG ?_ | refine wT ?_ | refine wM ?_ | refine wS ?_ | refine wP ?_)
    clear hF
    repeat refine evDone ?_
    try (show AW _ _ _ _ _)
    repeat refine AW.seq ?_
    refine AW.reg ?_
    have hF := hN
    repeat ((with_reducible show evIs _ (_ :: _) _ _); first | refine wQ ?_ | refine wF ?_ | refine wG ?_ | refine wT ?_ | refine wM ?_ | refine wS ?_ | refine wP ?_)
    clear hF
    repeat refine evDone ?_
    try (show AW _ _ _ _ _)
    refine ⟨(m, acc ++ [contB u], shr7 u, nx + 60, nx + 19), ⟨hs.1, hs.2, hv2, by simp; omega, by dsimp only; omega⟩, by dsimp only; omega, ?_⟩
    refine Fit.mk _ _ _ (by simp [hc, hsh, hN, conv2, newEmp, convs_refl, convs, conv]) (by simp [hc, hsh, hN, heapFit, newEmp, conv2s, conv2, convs_refl, convs, conv]) (by intro q hq; first | (simp at hq; done) | (simp at hq; omega) | (simp at hq; simp; omega))
  · have hT2 : T = acc ++ [lowB u] := by
      rw [← hv]
      cases m with
      | zero => rfl
      | succ m => rw [varF, if_neg hge]
    have htk : ∀ x : AV, List.take (acc.length + 1) (by8 acc ++ [x]) = by8 acc ++ [x] := fun x => List.take_of_length_le (by simp)
    have hl : lowB u = IntKind.u8.wrap u := rfl
    have hF := hge
    repeat ((with_reducible show evIs _ (_ :: _) _ _); first | refine wQ ?_ | refine wF ?_ | refine wG ?_ | refine wT ?_ | refine wM ?_ | refine wS ?_ | refine wP ?_)
    clear hF
    repeat refine evDone ?_
    try (show AW _ _ _ _ _)
    repeat refine AW.seq ?_
    refine AW.condF (by simp [hge]) (by simp [hge]) ?_
    refine AW.exit ?_
    show AW _ _ _ _ _
    repeat refine AW.seq ?_
    refine AW.reg ?_
    have hF := And.intro (hby) (And.intro (hby2) (hN))
    repeat ((with_reducible show evIs _ (_ :: _) _ _); first | refine wQ ?_ | refine wF ?_ | refine wG ?_ | refine wT ?_ | refine wM ?_ | refine wS ?_ | refine wP ?_)
    clear hF
    repeat refine evDone ?_
    try (show AW _ _ _ _ _)
    refine AW.ret (retI rfl ?_)
    simp [hT2, hl, hN, htk, b91_res, resOk, resP, resV, ARes.op, R2s, R2, R1s, R1, closeOk, closeV]
end Go.Proofs.Ytdnpnokplfemfaa

set_option linter.unusedSimpArgs false
set_option linter.unusedVariables false
set_option maxHeartbeats 8000000
namespace Go.Proofs.Ytdnpnokplfemfaa
open Go Go.Amb Go.IntWalk

def strB (s : ByteArray) : List Int := s.data.toList.map fun b => (b.toNat : Int)
def txtB (s : ByteArray) : List Int := intB s.size ++ strB s
theorem varF_len : ∀ (m : Nat) (u : Int), (varF m u).length ≤ m + 1
  | 0, u => by simp [varF]
  | m + 1, u => by
    have := varF_len m (shr7 u)
    rw [varF]
    split
    · simp only [List.length_cons]; omega
    · simp
theorem intB_len (n : Int) : (intB n).length ≤ 11 := varF_len 10 _
theorem strB_len (s : ByteArray) : (strB s).length = s.size := by
  simp [strB]
theorem txtB_len (s : ByteArray) : s.size ≤ (txtB s).length ∧ (txtB s).length ≤ s.size + 11 := by
  have := intB_len s.size
  simp only [txtB, List.length_append, strB_len]
  omega
mutual
def encV : Val → List Int
  | .mk k n t is ks => intB k ++ (if k = 1 ∨ k = 2 ∨ k = 6 then intB n else if k = 3 then txtB t else if k = 4 ∨ k = 5 then intB is.length ++ encsV (decide (k = 5)) is ks else encsV (decide (k = 5)) is ks)
def encsV (m : Bool) : List Val → List ByteArray → List Int
  | [], _ => []
  | x :: is, ks => (if m = true then txtB (ks.headD ⟨#[]⟩) else []) ++ (encV x ++ encsV m is ks.tail)
end
theorem encs_step {m : Bool} {is : List Val} {ks : List ByteArray} {i : Nat} {x : Val} {a : ByteArray} (hx : is[i]? = some x) (ha : m = true → ks[i]? = some a) :
    encsV m (is.drop i) (ks.drop i) = (if m = true then txtB a else []) ++ (encV x ++ encsV m (is.drop (i + 1)) (ks.drop (i + 1))) := by
  obtain ⟨hi, rfl⟩ := List.getElem?_eq_some_iff.1 hx
  rw [List.drop_eq_getElem_cons hi, encsV, List.tail_drop]
  cases m with
  | false => rfl
  | true => rw [headD_at (ha rfl)]
theorem wf_kind {f : Bool} {k n : Int} {t : ByteArray} {is : List Val} {ks : List ByteArray} (h : wfV f (.mk k n t is ks) = true) : (k = 0 ∧ is = []) ∨ k = 1 ∨ k = 2 ∨ k = 3 ∨ k = 4 ∨ k = 5 ∨ k = 6 := by
  rw [wfV, Bool.and_eq_true] at h
  have h := h.1
  unfold wfN at h
  by_cases k0 : k = 0
  · subst k0; simp at h; exact .inl ⟨rfl, h.2.2.1⟩
  by_cases k1 : k = 1
  · simp [k1]
  by_cases k2 : k = 2
  · simp [k2]
  by_cases k3 : k = 3
  · simp [k3]
  by_cases k4 : k = 4
  · simp [k4]
  by_cases k5 : k = 5
  · simp [k5]
  by_cases k6 : k = 6
  · simp [k6]
  simp [k0, k1, k2, k3, k4, k5, k6] at h
theorem f92 (bs : List Int) (s : ByteArray) (hb : bs.length + s.size ≤ 140737488354000) : ACall Try.prog 92 [.sl .fro (by8 bs), .str s] (· = .sl (.own 1) (by8 (bs ++ txtB s))) := by
  have h91 := f91 bs s.size (by omega)
  have hi := intB_len s.size
  have hsl : s.data.toList.length = s.size := rfl
  have hby : bs.length + (intB s.size).length + s.size ≤ 140737488355328 := by omega
  have hby2 : bs.length + (intB s.size).length + s.size ≤ 9223372036854775807 := by omega
  have hbs : ∀ l, List.map (AV.int .u8) bs ++ l = by8 bs ++ l := fun _ => rfl
  have hss : (s.data.toList.map fun b => AV.int .u8 b.toNat) = by8 (strB s) := by simp [strB, Function.comp_def]
  have htk : ∀ k, k = bs.length + (intB s.size).length + s.size → List.take k (by8 bs ++ (by8 (intB s.size) ++ by8 (strB s))) = by8 bs ++ (by8 (intB s.size) ++ by8 (strB s)) := fun k hk => List.take_of_length_le (by simp [strB_len]; omega)
  have htk := htk _ rfl
  have hle : bs.length + (intB s.size).length + s.size ≤ bs.length + ((intB s.size).length + (strB s).length) := by rw [strB_len]; omega
  refine b92_of (by simp) ?_
  repeat refine AW.seq ?_
  refine AW.reg ?_
  have hF := True.intro
  repeat ((with_reducible show evIs _ (_ :: _) _ _); first | refine wQ ?_ | refine wF ?_ | refine wG ?_ | refine wT ?_ | refine wM ?_ | refine wS ?_ | refine wP ?_)
  clear hF
  repeat refine evDone ?_
  try (show AW _ _ _ _ _)
  repeat refine AW.seq ?_
  refine AW.reg ?_
  have hF := True.intro
  repeat ((with_reducible show evIs _ (_ :: _) _ _); first | refine wQ ?_ | refine wF ?_ | refine wG ?_ | refine wT ?_ | refine wM ?_ | refine wS ?_ | refine wP ?_)
  clear hF
  repeat refine evDone ?_
  try (show AW _ _ _ _ _)
  have hF := True.intro
  refine wA (hA := h91) ?_
  clear hF
  have hF := And.intro (hby) (And.intro (hby2) (hsl))
  repeat ((with_reducible show evIs _ (_ :: _) _ _); first | refine wQ ?_ | refine wF ?_ | refine wG ?_ | refine wT ?_ | refine wM ?_ | refine wS ?_ | refine wP ?_)
  clear hF
  repeat refine evDone ?_
  try (show AW _ _ _ _ _)
  refine AW.ret (retI rfl ?_)
  simp [txtB, hss, hsl, htk, hle, b92_res, resOk, resP, resV, ARes.op, R2s, R2, R1s, R1, closeOk, closeV]
end Go.Proofs.Ytdnpnokplfemfaa

set_option linter.unusedSimpArgs false
set_option linter.unusedVariables false
set_option maxHeartbeats 8000000
namespace Go.Proofs.Ytdnpnokplfemfaa
open Go Go.Amb Go.IntWalk

def byL (ns : List Int) : List AV := by8 ns
theorem byL_cl (ns : List Int) : (byL ns).map clC = byL ns := by simp [byL, Function.comp_def]
@[simp] theorem byL_len (ns : List Int) : (byL ns).length = ns.length := by simp [byL]
theorem f91L (bs : List Int) (n : Int) (hb : bs.length ≤ 140737488355000) : ACall Try.prog 91 [.sl .fro (byL bs), .int .i64 n] (· = .sl (.own 1) (byL (bs ++ intB n))) := f91 bs n hb
theorem f92L (bs : List Int) (s : ByteArray) (hb : bs.length + s.size ≤ 140737488354000) : ACall Try.prog 92 [.sl .fro (byL bs), .str s] (· = .sl (.own 1) (byL (bs ++ txtB s))) := f92 bs s hb
theorem f62n (bs : List Int) (hb : bs.length ≤ 1000) : ACall Try.prog 62 [.sl .fro (byL bs), .agg [.int .i64 2, .int .i64 5, .str ⟨#[]⟩, .sl .fro [], .sl .fro []]] (· = .sl .fro (byL (bs ++ intB 2 ++ intB 5))) := by
  have hcl := byL_cl
  have hl := intB_len 2
  have h91 := f91L bs 2 (by omega)
  have h91n := f91L (bs ++ intB 2) 5 (by simp; omega)
  generalize intB 2 = K at *
  generalize intB 5 = L at *
  refine a62_of (by simp) ?_
  have hF := True.intro
  repeat (first | ((with_reducible show AW _ _ _ _ _); first | refine AW.seq ?_ | refine AW.block ?_ | refine AW.reg ?_ | refine AW.draw ?_ | refine wct ?_ | refine wcf ?_ | (refine AW.skip ?_; show AW _ _ _ _ _)) | refine wD1 ?_ | refine wD2 ?_ | refine wE1 ?_ | refine wE2 ?_ | (refine wE3 ?_; intro _) | (refine wE4 ?_; intro _) | refine wN ?_ | ((with_reducible show evIs _ (_ :: _) _ _); first | refine wQ ?_ | refine wF ?_ | refine wG ?_ | refine wT ?_ | refine wM ?_ | refine wS ?_ | refine wP ?_ | refine wJ ?_ | refine wX ?_ | refine wY ?_ | refine wZ ?_ | refine wU ?_ | refine wCp ?_ | refine wCp0 ?_ | refine wApz ?_ | (refine wCap ?_; intro qc hqc)) | refine evDone ?_ | ((fail_if_success with_reducible show AW _ _ _ _ _); show AW _ _ _ _ _))
  clear hF
  try (show AW _ _ _ _ _)
  have hF := hcl
  refine wC (hA := h91) ?_
  clear hF
  have hF := True.intro
  repeat (first | ((with_reducible show AW _ _ _ _ _); first | refine AW.seq ?_ | refine AW.block ?_ | refine AW.reg ?_ | refine AW.draw ?_ | refine wct ?_ | refine wcf ?_ | (refine AW.skip ?_; show AW _ _ _ _ _)) | refine wD1 ?_ | refine wD2 ?_ | refine wE1 ?_ | refine wE2 ?_ | (refine wE3 ?_; intro _) | (refine wE4 ?_; intro _) | refine wN ?_ | ((with_reducible show evIs _ (_ :: _) _ _); first | refine wQ ?_ | refine wF ?_ | refine wG ?_ | refine wT ?_ | refine wM ?_ | refine wS ?_ | refine wP ?_ | refine wJ ?_ | refine wX ?_ | refine wY ?_ | refine wZ ?_ | refine wU ?_ | refine wCp ?_ | refine wCp0 ?_ | refine wApz ?_ | (refine wCap ?_; intro qc hqc)) | refine evDone ?_ | ((fail_if_success with_reducible show AW _ _ _ _ _); show AW _ _ _ _ _))
  clear hF
  try (show AW _ _ _ _ _)
  have hF := hcl
  refine wC (hA := h91n) ?_
  clear hF
  have hF := True.intro
  repeat (first | ((with_reducible show AW _ _ _ _ _); first | refine AW.seq ?_ | refine AW.block ?_ | refine AW.reg ?_ | refine AW.draw ?_ | refine wct ?_ | refine wcf ?_ | (refine AW.skip ?_; show AW _ _ _ _ _)) | refine wD1 ?_ | refine wD2 ?_ | refine wE1 ?_ | refine wE2 ?_ | (refine wE3 ?_; intro _) | (refine wE4 ?_; intro _) | refine wN ?_ | ((with_reducible show evIs _ (_ :: _) _ _); first | refine wQ ?_ | refine wF ?_ | refine wG ?_ | refine wT ?_ | refine wM ?_ | refine wS ?_ | refine wP ?_ | refine wJ ?_ | refine wX ?_ | refine wY ?_ | refine wZ ?_ | refine wU ?_ | refine wCp ?_ | refine wCp0 ?_ | refine wApz ?_ | (refine wCap ?_; intro qc hqc)) | refine evDone ?_ | ((fail_if_success with_reducible show AW _ _ _ _ _); show AW _ _ _ _ _))
  clear hF
  try (show AW _ _ _ _ _)
  refine AW.ret (retI rfl ?_)
  simp [a62_res, resOk, resP, resV, ARes.op, R2s, R2, R1s, R1, closeOk, closeV]
theorem f62x (bs : List Int) (hb : bs.length ≤ 1000) : ACall Try.prog 62 [.sl .fro (byL bs), .agg [.int .i64 3, .int .i64 0, .str ⟨#[120]⟩, .sl .fro [], .sl .fro []]] (· = .sl .fro (byL (bs ++ intB 3 ++ txtB ⟨#[120]⟩))) := by
  have hcl := byL_cl
  have hl := intB_len 3
  have hsz : (⟨#[120]⟩ : ByteArray).size = 1 := rfl
  have h91 := f91L bs 3 (by omega)
  have h92 := f92L (bs ++ intB 3) ⟨#[120]⟩ (by simp [hsz]; omega)
  generalize intB 3 = K at *
  generalize txtB ⟨#[120]⟩ = L at *
  refine a62_of (by simp) ?_
  have hF := True.intro
  repeat (first | ((with_reducible show AW _ _ _ _ _); first | refine AW.seq ?_ | refine AW.block ?_ | refine AW.reg ?_ | refine AW.draw ?_ | refine wct ?_ | refine wcf ?_ | (refine AW.skip ?_; show AW _ _ _ _ _)) | refine wD1 ?_ | refine wD2 ?_ | refine wE1 ?_ | refine wE2 ?_ | (refine wE3 ?_; intro _) | (refine wE4 ?_; intro _) | refine wN ?_ | ((with_reducible show evIs _ (_ :: _) _ _); first | refine wQ ?_ | refine wF ?_ | refine wG ?_ | refine wT ?_ | refine wM ?_ | refine wS ?_ | refine wP ?_ | refine wJ ?_ | refine wX ?_ | refine wY ?_ | refine wZ ?_ | refine wU ?_ | refine wCp ?_ | refine wCp0 ?_ | refine wApz ?_ | (refine wCap ?_; intro qc hqc)) | refine evDone ?_ | ((fail_if_success with_reducible show AW _ _ _ _ _); show AW _ _ _ _ _))
  clear hF
  try (show AW _ _ _ _ _)
  have hF := hcl
  refine wC (hA := h91) ?_
  clear hF
  have hF := True.intro
  repeat (first | ((with_reducible show AW _ _ _ _ _); first | refine AW.seq ?_ | refine AW.block ?_ | refine AW.reg ?_ | refine AW.draw ?_ | refine wct ?_ | refine wcf ?_ | (refine AW.skip ?_; show AW _ _ _ _ _)) | refine wD1 ?_ | refine wD2 ?_ | refine wE1 ?_ | refine wE2 ?_ | (refine wE3 ?_; intro _) | (refine wE4 ?_; intro _) | refine wN ?_ | ((with_reducible show evIs _ (_ :: _) _ _); first | refine wQ ?_ | refine wF ?_ | refine wG ?_ | refine wT ?_ | refine wM ?_ | refine wS ?_ | refine wP ?_ | refine wJ ?_ | refine wX ?_ | refine wY ?_ | refine wZ ?_ | refine wU ?_ | refine wCp ?_ | refine wCp0 ?_ | refine wApz ?_ | (refine wCap ?_; intro qc hqc)) | refine evDone ?_ | ((fail_if_success with_reducible show AW _ _ _ _ _); show AW _ _ _ _ _))
  clear hF
  try (show AW _ _ _ _ _)
  have hF := hcl
  refine wC (hA := h92) ?_
  clear hF
  have hF := True.intro
  repeat (first | ((with_reducible show AW _ _ _ _ _); first | refine AW.seq ?_ | refine AW.block ?_ | refine AW.reg ?_ | refine AW.draw ?_ | refine wct ?_ | refine wcf ?_ | (refine AW.skip ?_; show AW _ _ _ _ _)) | refine wD1 ?_ | refine wD2 ?_ | refine wE1 ?_ | refine wE2 ?_ | (refine wE3 ?_; intro _) | (refine wE4 ?_; intro _) | refine wN ?_ | ((with_reducible show evIs _ (_ :: _) _ _); first | refine wQ ?_ | refine wF ?_ | refine wG ?_ | refine wT ?_ | refine wM ?_ | refine wS ?_ | refine wP ?_ | refine wJ ?_ | refine wX ?_ | refine wY ?_ | refine wZ ?_ | refine wU ?_ | refine wCp ?_ | refine wCp0 ?_ | refine wApz ?_ | (refine wCap ?_; intro qc hqc)) | refine evDone ?_ | ((fail_if_success with_reducible show AW _ _ _ _ _); show AW _ _ _ _ _))
  clear hF
  try (show AW _ _ _ _ _)
  refine AW.ret (retI rfl ?_)
  simp [a62_res, resOk, resP, resV, ARes.op, R2s, R2, R1s, R1, closeOk, closeV]
theorem f62l : ACall Try.prog 62 [.sl .fro (byL []), .agg [.int .i64 4, .int .i64 0, .str ⟨#[]⟩, .sl .fro [.agg [.int .i64 2, .int .i64 5, .str ⟨#[]⟩, .sl .fro [], .sl .fro []], .agg [.int .i64 3, .int .i64 0, .str ⟨#[120]⟩, .sl .fro [], .sl .fro []]], .sl .fro []]] (· = .sl .fro (byL [8, 4, 4, 10, 6, 2, 120])) := by
  have hcl := byL_cl
  have e1 : intB 4 = [8] := by kernel_rfl
  have e2 : [8] ++ intB 2 = [8, 4] := by kernel_rfl
  have e3 : [8, 4] ++ intB 2 ++ intB 5 = [8, 4, 4, 10] := by kernel_rfl
  have e4 : [8, 4, 4, 10] ++ intB 3 ++ txtB ⟨#[120]⟩ = [8, 4, 4, 10, 6, 2, 120] := by kernel_rfl
  have h1 := f91L [] 4 (by simp)
  have h2 := f91L [8] 2 (by simp)
  have h3 := f62n [8, 4] (by simp)
  have h4 := f62x [8, 4, 4, 10] (by simp)
  rw [List.nil_append, e1] at h1
  rw [e2] at h2
  rw [e3] at h3
  rw [e4] at h4
  have hw : IntKind.i64.wrap (0 + 1) = 1 ∧ IntKind.i64.wrap (1 + 1) = 2 ∧ IntKind.i64.wrap 1 = 1 ∧ IntKind.i64.wrap 2 = 2 := by decide
  refine a62_of (by simp) ?_
  have hF := True.intro
  repeat (first | ((with_reducible show AW _ _ _ _ _); first | refine AW.seq ?_ | refine AW.block ?_ | refine AW.reg ?_ | refine AW.draw ?_ | refine wct ?_ | refine wcf ?_ | (refine AW.skip ?_; show AW _ _ _ _ _)) | refine wD1 ?_ | refine wD2 ?_ | refine wE1 ?_ | refine wE2 ?_ | (refine wE3 ?_; intro _) | (refine wE4 ?_; intro _) | refine wN ?_ | ((with_reducible show evIs _ (_ :: _) _ _); first | refine wQ ?_ | refine wF ?_ | refine wG ?_ | refine wT ?_ | refine wM ?_ | refine wS ?_ | refine wP ?_ | refine wJ ?_ | refine wX ?_ | refine wY ?_ | refine wZ ?_ | refine wU ?_ | refine wCp ?_ | refine wCp0 ?_ | refine wApz ?_ | (refine wCap ?_; intro qc hqc)) | refine evDone ?_ | ((fail_if_success with_reducible show AW _ _ _ _ _); show AW _ _ _ _ _))
  clear hF
  try (show AW _ _ _ _ _)
  have hF := hcl
  refine wC (hA := h1) ?_
  clear hF
  have hF := True.intro
  repeat (first | ((with_reducible show AW _ _ _ _ _); first | refine AW.seq ?_ | refine AW.block ?_ | refine AW.reg ?_ | refine AW.draw ?_ | refine wct ?_ | refine wcf ?_ | (refine AW.skip ?_; show AW _ _ _ _ _)) | refine wD1 ?_ | refine wD2 ?_ | refine wE1 ?_ | refine wE2 ?_ | (refine wE3 ?_; intro _) | (refine wE4 ?_; intro _) | refine wN ?_ | ((with_reducible show evIs _ (_ :: _) _ _); first | refine wQ ?_ | refine wF ?_ | refine wG ?_ | refine wT ?_ | refine wM ?_ | refine wS ?_ | refine wP ?_ | refine wJ ?_ | refine wX ?_ | refine wY ?_ | refine wZ ?_ | refine wU ?_ | refine wCp ?_ | refine wCp0 ?_ | refine wApz ?_ | (refine wCap ?_; intro qc hqc)) | refine evDone ?_ | ((fail_if_success with_reducible show AW _ _ _ _ _); show AW _ _ _ _ _))
  clear hF
  try (show AW _ _ _ _ _)
  have hF := hcl
  refine wC (hA := h2) ?_
  clear hF
  have hF := True.intro
  repeat (first | ((with_reducible show AW _ _ _ _ _); first | refine AW.seq ?_ | refine AW.block ?_ | refine AW.reg ?_ | refine AW.draw ?_ | refine wct ?_ | refine wcf ?_ | (refine AW.skip ?_; show AW _ _ _ _ _)) | refine wD1 ?_ | refine wD2 ?_ | refine wE1 ?_ | refine wE2 ?_ | (refine wE3 ?_; intro _) | (refine wE4 ?_; intro _) | refine wN ?_ | ((with_reducible show evIs _ (_ :: _) _ _); first | refine wQ ?_ | refine wF ?_ | refine wG ?_ | refine wT ?_ | refine wM ?_ | refine wS ?_ | refine wP ?_ | refine wJ ?_ | refine wX ?_ | refine wY ?_ | refine wZ ?_ | refine wU ?_ | refine wCp ?_ | refine wCp0 ?_ | refine wApz ?_ | (refine wCap ?_; intro qc hqc)) | refine evDone ?_ | ((fail_if_success with_reducible show AW _ _ _ _ _); show AW _ _ _ _ _))
  clear hF
  try (show AW _ _ _ _ _)
  refine AW.loop (fun g : Nat => g ≤ 2) (fun g => mkS [(0, .sl .fro (byL (if g = 0 then [8, 4] else if g = 1 then [8, 4, 4, 10] else [8, 4, 4, 10, 6, 2, 120]))), (3, .ptr 0 0 0), (36, .sl .fro [.agg [.int .i64 2, .int .i64 5, .str ⟨#[]⟩, .sl .fro [], .sl .fro []], .agg [.int .i64 3, .int .i64 0, .str ⟨#[120]⟩, .sl .fro [], .sl .fro []]]), (37, .int .i64 2), (38, .int .i64 g)] [(0, ⟨5, true, [.agg [.int .i64 4, .int .i64 0, .str ⟨#[]⟩, .sl .fro [.agg [.int .i64 2, .int .i64 5, .str ⟨#[]⟩, .sl .fro [], .sl .fro []], .agg [.int .i64 3, .int .i64 0, .str ⟨#[120]⟩, .sl .fro [], .sl .fro []]], .sl .fro []]]⟩)] (60 + 60 * g)) (fun g => 2 - g) 0 (by omega) ?_ ?_
  · refine Fit.mk _ _ _ (by simp [conv2, newEmp, convs_refl, convs, conv]) (by simp [heapFit, newEmp, conv2s, conv2, convs_refl, convs, conv]) (by intro q hq; first | (simp at hq; done) | (simp at hq; omega) | (simp at hq; simp; omega))
  intro g hg
  rcases (show g = 0 ∨ g = 1 ∨ g = 2 by omega) with rfl | rfl | rfl
  · have hF := elemAt.eq_1
    repeat (first | ((with_reducible show AW _ _ _ _ _); first | refine AW.seq ?_ | refine AW.block ?_ | refine AW.reg ?_ | refine AW.draw ?_ | refine wct ?_ | refine wcf ?_ | (refine AW.skip ?_; show AW _ _ _ _ _)) | refine wD1 ?_ | refine wD2 ?_ | refine wE1 ?_ | refine wE2 ?_ | (refine wE3 ?_; intro _) | (refine wE4 ?_; intro _) | refine wN ?_ | ((with_reducible show evIs _ (_ :: _) _ _); first | refine wQ ?_ | refine wF ?_ | refine wG ?_ | refine wT ?_ | refine wM ?_ | refine wS ?_ | refine wP ?_ | refine wJ ?_ | refine wX ?_ | refine wY ?_ | refine wZ ?_ | refine wU ?_ | refine wCp ?_ | refine wCp0 ?_ | refine wApz ?_ | (refine wCap ?_; intro qc hqc)) | refine evDone ?_ | ((fail_if_success with_reducible show AW _ _ _ _ _); show AW _ _ _ _ _))
    clear hF
    try (show AW _ _ _ _ _)
    have hF := hcl
    refine wC (hA := h3) ?_
    clear hF
    have hF := hw
    repeat (first | ((with_reducible show AW _ _ _ _ _); first | refine AW.seq ?_ | refine AW.block ?_ | refine AW.reg ?_ | refine AW.draw ?_ | refine wct ?_ | refine wcf ?_ | (refine AW.skip ?_; show AW _ _ _ _ _)) | refine wD1 ?_ | refine wD2 ?_ | refine wE1 ?_ | refine wE2 ?_ | (refine wE3 ?_; intro _) | (refine wE4 ?_; intro _) | refine wN ?_ | ((with_reducible show evIs _ (_ :: _) _ _); first | refine wQ ?_ | refine wF ?_ | refine wG ?_ | refine wT ?_ | refine wM ?_ | refine wS ?_ | refine wP ?_ | refine wJ ?_ | refine wX ?_ | refine wY ?_ | refine wZ ?_ | refine wU ?_ | refine wCp ?_ | refine wCp0 ?_ | refine wApz ?_ | (refine wCap ?_; intro qc hqc)) | refine evDone ?_ | ((fail_if_success with_reducible show AW _ _ _ _ _); show AW _ _ _ _ _))
    clear hF
    try (show AW _ _ _ _ _)
    refine ⟨1, by omega, by omega, ?_⟩
    refine Fit.mk _ _ _ (by simp [hw, conv2, newEmp, convs_refl, convs, conv]) (by simp [hw, heapFit, newEmp, conv2s, conv2, convs_refl, convs, conv]) (by intro q hq; first | (simp at hq; done) | (simp at hq; omega) | (simp at hq; simp; omega))
  · have hF := elemAt.eq_1
    repeat (first | ((with_reducible show AW _ _ _ _ _); first | refine AW.seq ?_ | refine AW.block ?_ | refine AW.reg ?_ | refine AW.draw ?_ | refine wct ?_ | refine wcf ?_ | (refine AW.skip ?_; show AW _ _ _ _ _)) | refine wD1 ?_ | refine wD2 ?_ | refine wE1 ?_ | refine wE2 ?_ | (refine wE3 ?_; intro _) | (refine wE4 ?_; intro _) | refine wN ?_ | ((with_reducible show evIs _ (_ :: _) _ _); first | refine wQ ?_ | refine wF ?_ | refine wG ?_ | refine wT ?_ | refine wM ?_ | refine wS ?_ | refine wP ?_ | refine wJ ?_ | refine wX ?_ | refine wY ?_ | refine wZ ?_ | refine wU ?_ | refine wCp ?_ | refine wCp0 ?_ | refine wApz ?_ | (refine wCap ?_; intro qc hqc)) | refine evDone ?_ | ((fail_if_success with_reducible show AW _ _ _ _ _); show AW _ _ _ _ _))
    clear hF
    try (show AW _ _ _ _ _)
    have hF := hcl
    refine wC (hA := h4) ?_
    clear hF
    have hF := hw
    repeat (first | ((with_reducible show AW _ _ _ _ _); first | refine AW.seq ?_ | refine AW.block ?_ | refine AW.reg ?_ | refine AW.draw ?_ | refine wct ?_ | refine wcf ?_ | (refine AW.skip ?_; show AW _ _ _ _ _)) | refine wD1 ?_ | refine wD2 ?_ | refine wE1 ?_ | refine wE2 ?_ | (refine wE3 ?_; intro _) | (refine wE4 ?_; intro _) | refine wN ?_ | ((with_reducible show evIs _ (_ :: _) _ _); first | refine wQ ?_ | refine wF ?_ | refine wG ?_ | refine wT ?_ | refine wM ?_ | refine wS ?_ | refine wP ?_ | refine wJ ?_ | refine wX ?_ | refine wY ?_ | refine wZ ?_ | refine wU ?_ | refine wCp ?_ | refine wCp0 ?_ | refine wApz ?_ | (refine wCap ?_; intro qc hqc)) | refine evDone ?_ | ((fail_if_success with_reducible show AW _ _ _ _ _); show AW _ _ _ _ _))
    clear hF
    try (show AW _ _ _ _ _)
    refine ⟨2, by omega, by omega, ?_⟩
    refine Fit.mk _ _ _ (by simp [hw, conv2, newEmp, convs_refl, convs, conv]) (by simp [hw, heapFit, newEmp, conv2s, conv2, convs_refl, convs, conv]) (by intro q hq; first | (simp at hq; done) | (simp at hq; omega) | (simp at hq; simp; omega))
  · have hF := True.intro
    repeat (first | ((with_reducible show AW _ _ _ _ _); first | refine AW.seq ?_ | refine AW.block ?_ | refine AW.reg ?_ | refine AW.draw ?_ | refine wct ?_ | refine wcf ?_ | (refine AW.skip ?_; show AW _ _ _ _ _)) | refine wD1 ?_ | refine wD2 ?_ | refine wE1 ?_ | refine wE2 ?_ | (refine wE3 ?_; intro _) | (refine wE4 ?_; intro _) | refine wN ?_ | ((with_reducible show evIs _ (_ :: _) _ _); first | refine wQ ?_ | refine wF ?_ | refine wG ?_ | refine wT ?_ | refine wM ?_ | refine wS ?_ | refine wP ?_ | refine wJ ?_ | refine wX ?_ | refine wY ?_ | refine wZ ?_ | refine wU ?_ | refine wCp ?_ | refine wCp0 ?_ | refine wApz ?_ | (refine wCap ?_; intro qc hqc)) | refine evDone ?_ | ((fail_if_success with_reducible show AW _ _ _ _ _); show AW _ _ _ _ _))
    clear hF
    try (show AW _ _ _ _ _)
    refine AW.exit ?_
    show AW _ _ _ _ _
    have hF := True.intro
    repeat (first | ((with_reducible show AW _ _ _ _ _); first | refine AW.seq ?_ | refine AW.block ?_ | refine AW.reg ?_ | refine AW.draw ?_ | refine wct ?_ | refine wcf ?_ | (refine AW.skip ?_; show AW _ _ _ _ _)) | refine wD1 ?_ | refine wD2 ?_ | refine wE1 ?_ | refine wE2 ?_ | (refine wE3 ?_; intro _) | (refine wE4 ?_; intro _) | refine wN ?_ | ((with_reducible show evIs _ (_ :: _) _ _); first | refine wQ ?_ | refine wF ?_ | refine wG ?_ | refine wT ?_ | refine wM ?_ | refine wS ?_ | refine wP ?_ | refine wJ ?_ | refine wX ?_ | refine wY ?_ | refine wZ ?_ | refine wU ?_ | refine wCp ?_ | refine wCp0 ?_ | refine wApz ?_ | (refine wCap ?_; intro qc hqc)) | refine evDone ?_ | ((fail_if_success with_reducible show AW _ _ _ _ _); show AW _ _ _ _ _))
    clear hF
    try (show AW _ _ _ _ _)
    refine AW.ret (retI rfl ?_)
    simp [a62_res, resOk, resP, resV, ARes.op, R2s, R2, R1s, R1, closeOk, closeV]
theorem f17l : ACall Try.prog 17 [.sl .fro [], .agg [.int .i64 4, .int .i64 0, .str ⟨#[]⟩, .sl .fro [.agg [.int .i64 2, .int .i64 5, .str ⟨#[]⟩, .sl .fro [], .sl .fro []], .agg [.int .i64 3, .int .i64 0, .str ⟨#[120]⟩, .sl .fro [], .sl .fro []]], .sl .fro []]] (· = .sl .fro (byL [8, 4, 4, 10, 6, 2, 120])) := by
  have hcl := byL_cl
  have h61 : ACall Try.prog 61 [.sl .fro []] (· = .sl (.own 1) []) := f61 [] (by simp) (by simp) (by simp)
  have h57 := f57 true (.mk 4 0 ⟨#[]⟩ [.mk 2 5 ⟨#[]⟩ [] [], .mk 3 0 ⟨#[120]⟩ [] []] []) ⟨by simp, by simp, ⟨by simp, by simp, trivial⟩, ⟨by simp, by simp, trivial⟩, trivial⟩
  have hW : wfV true (.mk 4 0 ⟨#[]⟩ [.mk 2 5 ⟨#[]⟩ [] [], .mk 3 0 ⟨#[120]⟩ [] []] []) = true := by kernel_rfl
  rw [hW] at h57
  simp only [Val.av, avs, List.map_nil] at h57
  have h62 := f62l
  simp only [byL, by8, List.map_nil] at h62
  refine a17_of (by simp) ?_
  have hF := True.intro
  repeat (first | ((with_reducible show AW _ _ _ _ _); first | refine AW.seq ?_ | refine AW.block ?_ | refine AW.reg ?_ | refine AW.draw ?_ | refine wct ?_ | refine wcf ?_ | (refine AW.skip ?_; show AW _ _ _ _ _)) | refine wD1 ?_ | refine wD2 ?_ | refine wE1 ?_ | refine wE2 ?_ | (refine wE3 ?_; intro _) | (refine wE4 ?_; intro _) | refine wN ?_ | ((with_reducible show evIs _ (_ :: _) _ _); first | refine wQ ?_ | refine wF ?_ | refine wG ?_ | refine wT ?_ | refine wM ?_ | refine wS ?_ | refine wP ?_ | refine wJ ?_ | refine wX ?_ | refine wY ?_ | refine wZ ?_ | refine wU ?_ | refine wCp ?_ | refine wCp0 ?_ | refine wApz ?_ | (refine wCap ?_; intro qc hqc)) | refine evDone ?_ | ((fail_if_success with_reducible show AW _ _ _ _ _); show AW _ _ _ _ _))
  clear hF
  try (show AW _ _ _ _ _)
  have hF := True.intro
  refine wC (hA := h61) ?_
  clear hF
  have hF := True.intro
  repeat (first | ((with_reducible show AW _ _ _ _ _); first | refine AW.seq ?_ | refine AW.block ?_ | refine AW.reg ?_ | refine AW.draw ?_ | refine wct ?_ | refine wcf ?_ | (refine AW.skip ?_; show AW _ _ _ _ _)) | refine wD1 ?_ | refine wD2 ?_ | refine wE1 ?_ | refine wE2 ?_ | (refine wE3 ?_; intro _) | (refine wE4 ?_; intro _) | refine wN ?_ | ((with_reducible show evIs _ (_ :: _) _ _); first | refine wQ ?_ | refine wF ?_ | refine wG ?_ | refine wT ?_ | refine wM ?_ | refine wS ?_ | refine wP ?_ | refine wJ ?_ | refine wX ?_ | refine wY ?_ | refine wZ ?_ | refine wU ?_ | refine wCp ?_ | refine wCp0 ?_ | refine wApz ?_ | (refine wCap ?_; intro qc hqc)) | refine evDone ?_ | ((fail_if_success with_reducible show AW _ _ _ _ _); show AW _ _ _ _ _))
  clear hF
  try (show AW _ _ _ _ _)
  have hF := True.intro
  refine wC (hA := h57) ?_
  clear hF
  have hF := True.intro
  repeat (first | ((with_reducible show AW _ _ _ _ _); first | refine AW.seq ?_ | refine AW.block ?_ | refine AW.reg ?_ | refine AW.draw ?_ | refine wct ?_ | refine wcf ?_ | (refine AW.skip ?_; show AW _ _ _ _ _)) | refine wD1 ?_ | refine wD2 ?_ | refine wE1 ?_ | refine wE2 ?_ | (refine wE3 ?_; intro _) | (refine wE4 ?_; intro _) | refine wN ?_ | ((with_reducible show evIs _ (_ :: _) _ _); first | refine wQ ?_ | refine wF ?_ | refine wG ?_ | refine wT ?_ | refine wM ?_ | refine wS ?_ | refine wP ?_ | refine wJ ?_ | refine wX ?_ | refine wY ?_ | refine wZ ?_ | refine wU ?_ | refine wCp ?_ | refine wCp0 ?_ | refine wApz ?_ | (refine wCap ?_; intro qc hqc)) | refine evDone ?_ | ((fail_if_success with_reducible show AW _ _ _ _ _); show AW _ _ _ _ _))
  clear hF
  try (show AW _ _ _ _ _)
  have hF := True.intro
  refine wC (hA := h62) ?_
  clear hF
  have hF := True.intro
  repeat (first | ((with_reducible show AW _ _ _ _ _); first | refine AW.seq ?_ | refine AW.block ?_ | refine AW.reg ?_ | refine AW.draw ?_ | refine wct ?_ | refine wcf ?_ | (refine AW.skip ?_; show AW _ _ _ _ _)) | refine wD1 ?_ | refine wD2 ?_ | refine wE1 ?_ | refine wE2 ?_ | (refine wE3 ?_; intro _) | (refine wE4 ?_; intro _) | refine wN ?_ | ((with_reducible show evIs _ (_ :: _) _ _); first | refine wQ ?_ | refine wF ?_ | refine wG ?_ | refine wT ?_ | refine wM ?_ | refine wS ?_ | refine wP ?_ | refine wJ ?_ | refine wX ?_ | refine wY ?_ | refine wZ ?_ | refine wU ?_ | refine wCp ?_ | refine wCp0 ?_ | refine wApz ?_ | (refine wCap ?_; intro qc hqc)) | refine evDone ?_ | ((fail_if_success with_reducible show AW _ _ _ _ _); show AW _ _ _ _ _))
  clear hF
  try (show AW _ _ _ _ _)
  refine AW.ret (retI rfl ?_)
  simp [byL, by8, a17_res, resOk, resP, resV, ARes.op, R2s, R2, R1s, R1, closeOk, closeV]
end Go.Proofs.Ytdnpnokplfemfaa

set_option linter.unusedSimpArgs false
set_option linter.unusedVariables false
set_option maxHeartbeats 8000000
namespace Go.Proofs.Ytdnpnokplfemfaa
open Go Go.Amb Go.IntWalk

theorem f134 (s : ByteArray) : ACall Try.prog 134 [.str s] (· = .bool false) := by
  refine a134_of (by simp) ?_
  repeat refine AW.seq ?_
  refine AW.reg ?_
  have hF := True.intro
  repeat ((with_reducible show evIs _ (_ :: _) _ _); first | refine wQ ?_ | refine wF ?_ | refine wG ?_ | refine wT ?_ | refine wM ?_ | refine wS ?_ | refine wP ?_)
  clear hF
  repeat refine evDone ?_
  try (show AW _ _ _ _ _)
  repeat refine AW.seq ?_
  refine AW.reg ?_
  have hF := True.intro
  repeat ((with_reducible show evIs _ (_ :: _) _ _); first | refine wQ ?_ | refine wF ?_ | refine wG ?_ | refine wT ?_ | refine wM ?_ | refine wS ?_ | refine wP ?_)
  clear hF
  repeat refine evDone ?_
  try (show AW _ _ _ _ _)
  refine AW.ret (retI rfl ?_)
  simp [a134_res, resOk, resP, resV, ARes.op, R2s, R2, R1s, R1, closeOk, closeV]
theorem f145 (s : ByteArray) : ACall Try.prog 145 [.str s] (· = .bool false) := by
  refine a145_of (by simp) ?_
  repeat refine AW.seq ?_
  refine AW.reg ?_
  have hF := True.intro
  repeat ((with_reducible show evIs _ (_ :: _) _ _); first | refine wQ ?_ | refine wF ?_ | refine wG ?_ | refine wT ?_ | refine wM ?_ | refine wS ?_ | refine wP ?_)
  clear hF
  repeat refine evDone ?_
  try (show AW _ _ _ _ _)
  repeat refine AW.seq ?_
  refine AW.reg ?_
  have hF := True.intro
  repeat ((with_reducible show evIs _ (_ :: _) _ _); first | refine wQ ?_ | refine wF ?_ | refine wG ?_ | refine wT ?_ | refine wM ?_ | refine wS ?_ | refine wP ?_)
  clear hF
  repeat refine evDone ?_
  try (show AW _ _ _ _ _)
  refine AW.ret (retI rfl ?_)
  simp [a145_res, resOk, resP, resV, ARes.op, R2s, R2, R1s, R1, closeOk, closeV]
theorem f133 (s t : ByteArray) : ACall Try.prog 133 [.str s, .str t] (· = .bool (Op.bytesLess s.toList t.toList)) := by
  have h := f145 s
  refine a133_of (by simp) ?_
  repeat refine AW.seq ?_
  refine AW.reg ?_
  have hF := True.intro
  repeat ((with_reducible show evIs _ (_ :: _) _ _); first | refine wQ ?_ | refine wF ?_ | refine wG ?_ | refine wT ?_ | refine wM ?_ | refine wS ?_ | refine wP ?_)
  clear hF
  repeat refine evDone ?_
  try (show AW _ _ _ _ _)
  repeat refine AW.seq ?_
  refine AW.reg ?_
  have hF := True.intro
  repeat ((with_reducible show evIs _ (_ :: _) _ _); first | refine wQ ?_ | refine wF ?_ | refine wG ?_ | refine wT ?_ | refine wM ?_ | refine wS ?_ | refine wP ?_)
  clear hF
  repeat refine evDone ?_
  try (show AW _ _ _ _ _)
  have hF := True.intro
  refine wC (hA := h) ?_
  clear hF
  have hF := True.intro
  repeat ((with_reducible show evIs _ (_ :: _) _ _); first | refine wQ ?_ | refine wF ?_ | refine wG ?_ | refine wT ?_ | refine wM ?_ | refine wS ?_ | refine wP ?_)
  clear hF
  repeat refine evDone ?_
  try (show AW _ _ _ _ _)
  refine AW.ret (retI rfl ?_)
  simp [a133_res, resOk, resP, resV, ARes.op, R2s, R2, R1s, R1, closeOk, closeV]
end Go.Proofs.Ytdnpnokplfemfaa

set_option linter.unusedSimpArgs false
set_option linter.unusedVariables false
namespace Go.Proofs.Ytdnpnokplfemfaa
open Go Go.Amb Go.RowKit
section
variable {H : Type} {enc : TypeId × Value → H} {w : World} {n : Nat} {cs : List Value} {x : DataW H × List MemPlace}
theorem bytes25 : Try.prog.bytesOf 25 = 80 := by kernel_rfl
theorem bytes9 : Try.prog.bytesOf 9 = 16 := by kernel_rfl
theorem tell_val : ∀ (n : Nat) (cs : List Value) (x : DataW H × List MemPlace), DataW.trod enc Try.prog w 0 (fun _ => true) true n 25 cs = some x →
    ∃ v : Val, Tell w (cellsOf v.av) cs ∧ (cellsOf v.av).length = Try.prog.cellsOf 25 ∧ (WOk Try.prog 25 x.1 → v.okv) := by
  intro n
  induction n using Nat.strongRecOn with
  | _ n ih =>
    intro cs x h
    obtain ⟨css, ds, m, rfl, hx, rfl, he⟩ := tell_fields Try.underlying25 (by kernel_rfl) h
    obtain ⟨c0, css, d0, ds, rfl, rfl, ⟨p0, h0⟩, he⟩ := each_cons he
    obtain ⟨c1, css, d1, ds, rfl, rfl, ⟨p1, h1⟩, he⟩ := each_cons he
    obtain ⟨c2, css, d2, ds, rfl, rfl, ⟨p2, h2⟩, he⟩ := each_cons he
    obtain ⟨c3, css, d3, ds, rfl, rfl, ⟨p3, h3⟩, he⟩ := each_cons he
    obtain ⟨c4, css, d4, ds, rfl, rfl, ⟨p4, h4⟩, he⟩ := each_cons he
    obtain ⟨rfl, rfl⟩ := each_nil he
    obtain ⟨i0, t0, e0, _⟩ := tell_int Try.underlying3 h0
    obtain ⟨i1, t1, e1, _⟩ := tell_int Try.underlying3 h1
    obtain ⟨i2, t2, e2, _⟩ := tell_str Try.underlying9 h2
    obtain ⟨i3, t3, _, e3⟩ := tell_slice Try.underlying22 (by decide +kernel) Val.av (fun v d => WOk Try.prog 25 d → v.okv) h3 (fun m' hm cs x hx => ih m' (by omega) cs x hx)
    obtain ⟨i4, t4, _, e4⟩ := tell_slice Try.underlying23 (by decide +kernel) AV.str (fun v d => WOk Try.prog 9 d → True) h4 (fun m' hm cs x hx => by
      obtain ⟨s, a, _⟩ := tell_str Try.underlying9 hx
      exact ⟨s, a, by kernel_rfl, fun _ => trivial⟩)
    refine ⟨⟨i0, i1, i2, i3, i4⟩, ?_, by simp; kernel_rfl, ?_⟩
    · have := t0.app (t1.app (t2.app (t3.app t4)))
      simpa [Val.av, vals_map] using this
    · intro hw
      rw [hx] at hw
      have hw3 : WOk Try.prog 22 d3 := fun k hk => hw k (by simp [DataW.weights, Try.underlying25, DataW.weightsEach, hk])
      have hw4 : WOk Try.prog 23 d4 := fun k hk => hw k (by simp [DataW.weights, Try.underlying25, DataW.weightsEach, hk])
      have a3 := slOf_ok Try.underlying22 e3 hw3
      have a4 := slOf_ok Try.underlying23 e4 hw4
      rw [bytes25] at a3
      rw [bytes9] at a4
      unfold reachBytes at a3 a4
      exact ⟨by omega, by omega, okvs_of a3.2⟩
theorem tell_vals {v : Value} {d : DataW H} {p : List MemPlace} (h : DataW.Trod enc Try.prog w 0 (fun _ => true) true 22 v d p) (hw : WOk Try.prog 22 d) : ∃ vs : List Val, Tell w [.sl .fro (avs vs)] v.cells.toList ∧ okvs vs ∧ vs.length * 80 ≤ 140737488355328 := by
  obtain ⟨n, h⟩ := h
  obtain ⟨vs, a, _, e⟩ := tell_slice Try.underlying22 (by decide +kernel) Val.av (fun v d => WOk Try.prog 25 d → v.okv) h (fun m _ cs x hx => tell_val m cs x hx)
  have a3 := slOf_ok Try.underlying22 e hw
  rw [bytes25] at a3
  unfold reachBytes at a3
  exact ⟨vs, by rw [vals_map]; exact a, okvs_of a3.2, by omega⟩

theorem tell_v {v : Value} {d : DataW H} {p : List MemPlace} (h : DataW.Trod enc Try.prog w 0 (fun _ => true) true 25 v d p) (hw : WOk Try.prog 25 d) : ∃ (a b : Int) (c : ByteArray) (d : List Val) (e : List ByteArray), Tell w [.int .i64 a, .int .i64 b, .str c, .sl .fro (avs d), .sl .fro (e.map .str)] v.cells.toList ∧ (Val.mk a b c d e).okv := by
  obtain ⟨n, h⟩ := h
  obtain ⟨⟨a, b, c, d, e⟩, t, _, ok⟩ := tell_val _ _ _ h
  exact ⟨a, b, c, d, e, t, ok hw⟩
end
end Go.Proofs.Ytdnpnokplfemfaa
