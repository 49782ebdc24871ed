/- Contracts of chapter 2's functions, twenty-third part: the numbers of the reference. -/
import Derived.Test.YtdnpnokplfemfaaS6
import Derived.Test.YtdnpnokplfemfaaB3
import Derived.Test.YtdnpnokplfemfaaS7
import Derived.Test.YtdnpnokplfemfaaT8
import Derived.Test.YtdnpnokplfemfaaRows
import Derived.Test.YtdnpnokplfemfaaA3
import Derived.Test.YtdnpnokplfemfaaChecked

set_option linter.unusedSimpArgs false
set_option linter.unusedVariables false
set_option maxHeartbeats 8000000
namespace Go.Proofs.Ytdnpnokplfemfaa
open Go Go.Amb Go.IntWalk

theorem xor_ones {x : Nat} (h : x < 18446744073709551616) : x ^^^ 18446744073709551615 = 18446744073709551615 - x := by
  have h1 := congrArg BitVec.toNat (BitVec.xor_allOnes (x := BitVec.ofNat 64 x))
  rw [BitVec.toNat_xor, BitVec.toNat_not, BitVec.toNat_allOnes, BitVec.toNat_ofNat, Nat.mod_eq_of_lt (by omega)] at h1
  exact h1
theorem wrap_u64 (n : Int) : IntKind.u64.wrap n = n % 18446744073709551616 := by simp [IntKind.wrap, IntKind.bits, IntKind.signed]
theorem wrap_u8 (n : Int) : IntKind.u8.wrap n = n % 256 := by simp [IntKind.wrap, IntKind.bits, IntKind.signed]
def zzF (n : Int) : Int := if 0 ≤ n then 2 * n else -2 * n - 1
theorem zz_eq (n : Int) (h0 : -9223372036854775808 ≤ n) (h1 : n ≤ 9223372036854775807) : zz n = zzF n := by
  have e1 : (2 : Int) ^ min 1 IntKind.u64.bits = 2 := by decide
  have e2 : (2 : Int) ^ min 63 IntKind.i64.bits = 9223372036854775808 := by decide
  have e3 : (2 : Int) ^ IntKind.u64.bits = 18446744073709551616 := by decide
  have e4 : n.fdiv 9223372036854775808 = n / 9223372036854775808 := Int.fdiv_eq_ediv_of_nonneg _ (by decide)
  unfold zz zzF
  rw [e1, e2, e3, e4]
  simp only [wrap_u64]
  by_cases h : 0 ≤ n
  · have a : (n % 18446744073709551616 * 2 % 18446744073709551616 % 18446744073709551616).toNat = (2 * n).toNat := by congr 1; omega
    have b : (n / 9223372036854775808 % 18446744073709551616 % 18446744073709551616).toNat = 0 := by omega
    rw [a, b, Nat.xor_zero, if_pos h]
    omega
  · have a : (n % 18446744073709551616 * 2 % 18446744073709551616 % 18446744073709551616).toNat = (2 * n + 18446744073709551616).toNat := by congr 1; omega
    have b : (n / 9223372036854775808 % 18446744073709551616 % 18446744073709551616).toNat = 18446744073709551615 := by omega
    rw [a, b, xor_ones (by omega), if_neg h]
    omega
theorem or_128 : ∀ x : Nat, x < 256 → (x ||| 128) = x % 128 + 128 := by decide +kernel
theorem contB_eq (u : Int) (h0 : 0 ≤ u) : contB u = u % 128 + 128 := by
  have e1 : (2 : Int) ^ IntKind.u8.bits = 256 := by decide
  have e2 : 128 % 2 ^ IntKind.u8.bits = 128 := by decide
  unfold contB
  rw [e1, e2]
  simp only [wrap_u8]
  rw [or_128 _ (by omega)]
  omega
theorem shr7_eq (u : Int) : shr7 u = u / 128 := by
  show u.fdiv 128 = _
  rw [Int.fdiv_eq_ediv_of_nonneg _ (by decide)]
theorem f114 (n : Int) (h0 : -9223372036854775808 ≤ n) (h1 : n ≤ 9223372036854775807) : ACall Try.prog 114 [.int .i64 n] (· = .int .u64 (zz n)) := by
  have hz := zz_eq n h0 h1
  unfold zzF at hz
  refine c114_of (by simp) ?_
  repeat refine AW.seq ?_
  refine AW.reg ?_
  have hF := True.intro
  repeat ((with_reducible show evIs _ (_ :: _) _ _); first | refine wQ ?_ | refine wF ?_ | refine wG ?_ | refine wT ?_ | refine wM ?_ | refine wS ?_ | refine wP ?_)
  clear hF
  repeat refine evDone ?_
  try (show AW _ _ _ _ _)
  repeat refine AW.seq ?_
  refine AW.reg ?_
  by_cases h : 0 ≤ n
  · rw [if_pos h] at hz
    have hw : IntKind.u64.wrap (2 * IntKind.u64.wrap n) = zz n := by rw [hz]; simp only [wrap_u64]; omega
    have hF := h
    repeat ((with_reducible show evIs _ (_ :: _) _ _); first | refine wQ ?_ | refine wF ?_ | refine wG ?_ | refine wT ?_ | refine wM ?_ | refine wS ?_ | refine wP ?_)
    clear hF
    repeat refine evDone ?_
    try (show AW _ _ _ _ _)
    repeat refine AW.seq ?_
    refine AW.condT (by simp [h]) (by simp [h]) ?_
    repeat refine AW.seq ?_
    refine AW.reg ?_
    have hF := hw
    repeat ((with_reducible show evIs _ (_ :: _) _ _); first | refine wQ ?_ | refine wF ?_ | refine wG ?_ | refine wT ?_ | refine wM ?_ | refine wS ?_ | refine wP ?_)
    clear hF
    repeat refine evDone ?_
    try (show AW _ _ _ _ _)
    refine AW.ret (retI rfl ?_)
    simp [hw, c114_res, resOk, resP, resV, ARes.op, R2s, R2, R1s, R1, closeOk, closeV]
  · rw [if_neg h] at hz
    have hw1 : IntKind.i64.wrap (n + 1) = n + 1 := i64_in _ ⟨by omega, by omega⟩
    have hw2 : IntKind.i64.wrap (0 - (n + 1)) = -(n + 1) := by rw [i64_in _ ⟨by omega, by omega⟩]; omega
    have hw3 : IntKind.i64.wrap (-(n + 1)) = -(n + 1) := i64_in _ ⟨by omega, by omega⟩
    have hw : IntKind.u64.wrap (IntKind.u64.wrap (2 * IntKind.u64.wrap (-(n + 1))) + 1) = zz n := by rw [hz]; simp only [wrap_u64]; omega
    have hF := h
    repeat ((with_reducible show evIs _ (_ :: _) _ _); first | refine wQ ?_ | refine wF ?_ | refine wG ?_ | refine wT ?_ | refine wM ?_ | refine wS ?_ | refine wP ?_)
    clear hF
    repeat refine evDone ?_
    try (show AW _ _ _ _ _)
    repeat refine AW.seq ?_
    refine AW.condF (by simp [h]) (by simp [h]) ?_
    refine AW.skip ?_
    show AW _ _ _ _ _
    repeat refine AW.seq ?_
    refine AW.reg ?_
    have hF := And.intro (hw1) (And.intro (hw2) (And.intro (hw3) (hw)))
    repeat ((with_reducible show evIs _ (_ :: _) _ _); first | refine wQ ?_ | refine wF ?_ | refine wG ?_ | refine wT ?_ | refine wM ?_ | refine wS ?_ | refine wP ?_)
    clear hF
    repeat refine evDone ?_
    try (show AW _ _ _ _ _)
    refine AW.ret (retI rfl ?_)
    simp [hw1, hw2, hw3, hw, c114_res, resOk, resP, resV, ARes.op, R2s, R2, R1s, R1, closeOk, closeV]
end Go.Proofs.Ytdnpnokplfemfaa

set_option linter.unusedSimpArgs false
set_option linter.unusedVariables false
set_option maxHeartbeats 8000000
namespace Go.Proofs.Ytdnpnokplfemfaa
open Go Go.Amb Go.IntWalk

theorem f93 (bs : List Int) (n : Int) (hb : bs.length ≤ 140737488355000) (h0 : -9223372036854775808 ≤ n) (h1 : n ≤ 9223372036854775807) : ACall Try.prog 93 [.sl .fro (by8 bs), .int .i64 n] (· = .sl (.own 1) (by8 (bs ++ intB n))) := by
  have h114 := f114 n h0 h1
  have hz := zz_range n
  have hb1 : bs.length ≤ 140737488355328 := by omega
  have hb2 : bs.length ≤ 9223372036854775807 := by omega
  have htk0 : List.take bs.length (by8 bs) = by8 bs := List.take_of_length_le (by simp)
  refine c93_of (by simp) ?_
  repeat refine AW.seq ?_
  refine AW.reg ?_
  have hF := True.intro
  repeat ((with_reducible show evIs _ (_ :: _) _ _); first | refine wQ ?_ | refine wF ?_ | refine wG ?_ | refine wT ?_ | refine wM ?_ | refine wS ?_ | refine wP ?_)
  clear hF
  repeat refine evDone ?_
  try (show AW _ _ _ _ _)
  repeat refine AW.seq ?_
  refine AW.reg ?_
  have hF := And.intro (hb1) (hb2)
  repeat ((with_reducible show evIs _ (_ :: _) _ _); first | refine wQ ?_ | refine wF ?_ | refine wG ?_ | refine wT ?_ | refine wM ?_ | refine wS ?_ | refine wP ?_)
  clear hF
  repeat refine evDone ?_
  try (show AW _ _ _ _ _)
  repeat refine AW.seq ?_
  refine AW.reg ?_
  have hF := True.intro
  repeat ((with_reducible show evIs _ (_ :: _) _ _); first | refine wQ ?_ | refine wF ?_ | refine wG ?_ | refine wT ?_ | refine wM ?_ | refine wS ?_ | refine wP ?_)
  clear hF
  repeat refine evDone ?_
  try (show AW _ _ _ _ _)
  have hF := True.intro
  refine wC (hA := h114) ?_
  clear hF
  have hF := True.intro
  repeat ((with_reducible show evIs _ (_ :: _) _ _); first | refine wQ ?_ | refine wF ?_ | refine wG ?_ | refine wT ?_ | refine wM ?_ | refine wS ?_ | refine wP ?_)
  clear hF
  repeat refine evDone ?_
  try (show AW _ _ _ _ _)
  unfold intB
  generalize zz n = u0 at *
  obtain ⟨T, hT⟩ : ∃ T, T = bs ++ varF 10 u0 := ⟨_, rfl⟩
  rw [← hT]
  repeat refine AW.seq ?_
  refine AW.block ?_
  refine AW.loop (fun g : Nat × List Int × Int × Nat × Nat => 0 ≤ g.2.2.1 ∧ g.2.2.1 < 18446744073709551616 ∧ g.2.2.1 < 128 ^ g.1 ∧ g.2.1 ++ varF g.1 g.2.2.1 = T ∧ g.2.1.length + g.1 ≤ bs.length + 10 ∧ g.2.2.2.2 < g.2.2.2.1) (fun g => mkS [(5, .hdr g.2.2.2.2 0 g.2.1.length), (6, .int .u64 g.2.2.1)] [(g.2.2.2.2, ⟨1, false, by8 g.2.1⟩)] g.2.2.2.1) (fun g => g.1) (10, bs, u0, 30, 3) ⟨hz.1, hz.2, by have := hz.2; simp only; omega, hT.symm, by simp, by simp⟩ ?_ ?_
  · refine Fit.mk _ _ _ (by simp [conv2, newEmp, convs_refl, convs, conv]) (by simp [heapFit, newEmp, conv2s, conv2, convs_refl, convs, conv]) (by intro q hq; first | (simp at hq; done) | (simp at hq; omega) | (simp at hq; simp; omega))
  rintro ⟨m, acc, u, nx, r⟩ ⟨hu0, hu9, hu1, hv, hlen, hr⟩
  dsimp only at hu0 hu9 hu1 hv hlen hr ⊢
  have hN : (∀ q, (r = nx + q) = False) ∧ (∀ q, (nx + q = r) = False) ∧ (∀ q, r < nx + q) ∧ (∀ q, (nx + q < nx) = False) := by
    refine ⟨?_, ?_, ?_, ?_⟩ <;> first | exact fun q => eq_false (by omega) | exact fun q => by omega
  have hby : acc.length + 1 ≤ 140737488355328 := by omega
  have hby2 : acc.length + 1 ≤ 9223372036854775807 := by omega
  repeat refine AW.seq ?_
  refine AW.reg ?_
  by_cases hge : 128 ≤ u
  · obtain ⟨m, rfl⟩ : ∃ m', m = m' + 1 := by
      cases m with
      | zero => simp at hu1; omega
      | succ m => exact ⟨m, rfl⟩
    have hgt : 127 < u := by omega
    have hv2 : (acc ++ [contB u]) ++ varF m (shr7 u) = T := by rw [← hv, varF, if_pos hge]; simp
    have hs := shr7_lt hu0 hu1
    have hs9 : shr7 u < 18446744073709551616 := by rw [shr7_eq]; omega
    have hm : u.tmod 128 = u % 128 := Int.tmod_eq_emod_of_nonneg hu0
    have hd : u.tdiv 128 = u / 128 := Int.tdiv_eq_ediv_of_nonneg hu0
    have hw1 : IntKind.u64.wrap (u % 128 + 128) = u % 128 + 128 := by rw [wrap_u64]; omega
    have hw2 : IntKind.u8.wrap (u % 128 + 128) = contB u := by rw [contB_eq u hu0, wrap_u8]; omega
    have hw3 : IntKind.u64.wrap (u / 128) = shr7 u := by rw [shr7_eq, wrap_u64]; omega
    have hF := hgt
    repeat ((with_reducible show evIs _ (_ :: _) _ _); first | refine wQ ?_ | refine wF ?_ | refine wG ?_ | refine wT ?_ | refine wM ?_ | refine wS ?_ | refine wP ?_)
    clear hF
    repeat refine evDone ?_
    try (show AW _ _ _ _ _)
    repeat refine AW.seq ?_
    refine AW.condT (by simp [hgt]) (by simp [hgt]) ?_
    refine AW.skip ?_
    show AW _ _ _ _ _
    refine AW.block ?_
    repeat refine AW.seq ?_
    refine AW.reg ?_
    have hF := And.intro (hby) (And.intro (hby2) (And.intro (hN) (And.intro (hm) (And.intro (hw1) (hw2)))))
    repeat ((with_reducible show evIs _ (_ :: _) _ _); first | refine wQ ?_ | refine wF ?_ | refine wG ?_ | refine wT ?_ | refine wM ?_ | refine wS ?_ | refine wP ?_)
    clear hF
    repeat refine evDone ?_
    try (show AW _ _ _ _ _)
    repeat refine AW.seq ?_
    refine AW.reg ?_
    have hF := And.intro (hN) (And.intro (hd) (hw3))
    repeat ((with_reducible show evIs _ (_ :: _) _ _); first | refine wQ ?_ | refine wF ?_ | refine wG ?_ | refine wT ?_ | refine wM ?_ | refine wS ?_ | refine wP ?_)
    clear hF
    repeat refine evDone ?_
    try (show AW _ _ _ _ _)
    refine ⟨(m, acc ++ [contB u], shr7 u, nx + 60, nx + 16), ⟨hs.1, hs9, hs.2, hv2, by simp; omega, by dsimp only; omega⟩, by dsimp only; omega, ?_⟩
    refine Fit.mk _ _ _ (by simp [hN, hm, hw1, hw2, hd, hw3, conv2, newEmp, convs_refl, convs, conv]) (by simp [hN, hm, hw1, hw2, hd, hw3, heapFit, newEmp, conv2s, conv2, convs_refl, convs, conv]) (by intro q hq; first | (simp at hq; done) | (simp at hq; omega) | (simp at hq; simp; omega))
  · have hT2 : T = acc ++ [lowB u] := by
      rw [← hv]
      cases m with
      | zero => rfl
      | succ m => rw [varF, if_neg hge]
    have hgt : ¬ 127 < u := by omega
    have htk : ∀ x : AV, List.take (acc.length + 1) (by8 acc ++ [x]) = by8 acc ++ [x] := fun x => List.take_of_length_le (by simp)
    have hl : lowB u = IntKind.u8.wrap u := rfl
    have hF := hgt
    repeat ((with_reducible show evIs _ (_ :: _) _ _); first | refine wQ ?_ | refine wF ?_ | refine wG ?_ | refine wT ?_ | refine wM ?_ | refine wS ?_ | refine wP ?_)
    clear hF
    repeat refine evDone ?_
    try (show AW _ _ _ _ _)
    repeat refine AW.seq ?_
    refine AW.condF (by simp [hgt]) (by simp [hgt]) ?_
    refine AW.exit ?_
    show AW _ _ _ _ _
    repeat refine AW.seq ?_
    refine AW.reg ?_
    have hF := And.intro (hby) (And.intro (hby2) (hN))
    repeat ((with_reducible show evIs _ (_ :: _) _ _); first | refine wQ ?_ | refine wF ?_ | refine wG ?_ | refine wT ?_ | refine wM ?_ | refine wS ?_ | refine wP ?_)
    clear hF
    repeat refine evDone ?_
    try (show AW _ _ _ _ _)
    repeat refine AW.seq ?_
    refine AW.reg ?_
    have hF := hN
    repeat ((with_reducible show evIs _ (_ :: _) _ _); first | refine wQ ?_ | refine wF ?_ | refine wG ?_ | refine wT ?_ | refine wM ?_ | refine wS ?_ | refine wP ?_)
    clear hF
    repeat refine evDone ?_
    try (show AW _ _ _ _ _)
    refine AW.ret (retI rfl ?_)
    simp [hT2, hl, hN, htk, c93_res, resOk, resP, resV, ARes.op, R2s, R2, R1s, R1, closeOk, closeV]
end Go.Proofs.Ytdnpnokplfemfaa

set_option linter.unusedSimpArgs false
set_option linter.unusedVariables false
set_option maxHeartbeats 8000000
namespace Go.Proofs.Ytdnpnokplfemfaa
open Go Go.Amb Go.IntWalk

theorem f94 (bs : List Int) (s : ByteArray) (hb : bs.length + s.size ≤ 140737488354000) : ACall Try.prog 94 [.sl .fro (by8 bs), .str s] (· = .sl (.own 1) (by8 (bs ++ txtB s))) := by
  have h93 := f93 bs s.size (by omega) (by omega) (by omega)
  have hi := intB_len s.size
  have hsl : s.data.toList.length = s.size := rfl
  obtain ⟨T, hT⟩ : ∃ T, T = bs ++ txtB s := ⟨_, rfl⟩
  rw [← hT]
  obtain ⟨A, hA⟩ : ∃ A, A = bs ++ intB s.size := ⟨_, rfl⟩
  have hAl : A.length ≤ bs.length + 11 := by rw [hA]; simp; omega
  have hT0 : A ++ (strB s).drop 0 = T := by rw [hT, hA]; simp [txtB]
  rw [← hA] at h93
  refine c94_of (by simp) ?_
  repeat refine AW.seq ?_
  refine AW.reg ?_
  have hF := True.intro
  repeat ((with_reducible show evIs _ (_ :: _) _ _); first | refine wQ ?_ | refine wF ?_ | refine wG ?_ | refine wT ?_ | refine wM ?_ | refine wS ?_ | refine wP ?_)
  clear hF
  repeat refine evDone ?_
  try (show AW _ _ _ _ _)
  repeat refine AW.seq ?_
  refine AW.reg ?_
  have hF := True.intro
  repeat ((with_reducible show evIs _ (_ :: _) _ _); first | refine wQ ?_ | refine wF ?_ | refine wG ?_ | refine wT ?_ | refine wM ?_ | refine wS ?_ | refine wP ?_)
  clear hF
  repeat refine evDone ?_
  try (show AW _ _ _ _ _)
  have hF := True.intro
  refine wA (hA := h93) ?_
  clear hF
  have hF := True.intro
  repeat ((with_reducible show evIs _ (_ :: _) _ _); first | refine wQ ?_ | refine wF ?_ | refine wG ?_ | refine wT ?_ | refine wM ?_ | refine wS ?_ | refine wP ?_)
  clear hF
  repeat refine evDone ?_
  try (show AW _ _ _ _ _)
  repeat refine AW.seq ?_
  refine AW.reg ?_
  have hF := True.intro
  repeat ((with_reducible show evIs _ (_ :: _) _ _); first | refine wQ ?_ | refine wF ?_ | refine wG ?_ | refine wT ?_ | refine wM ?_ | refine wS ?_ | refine wP ?_)
  clear hF
  repeat refine evDone ?_
  try (show AW _ _ _ _ _)
  repeat refine AW.seq ?_
  refine AW.block ?_
  refine AW.loop (fun g : Nat × List Int × Nat × Nat => g.1 ≤ s.size ∧ g.2.1 ++ (strB s).drop g.1 = T ∧ g.2.1.length = A.length + g.1 ∧ g.2.2.2 < g.2.2.1) (fun g => mkS [(1, .str s), (5, .hdr g.2.2.2 0 g.2.1.length), (6, .int .i64 g.1)] [(g.2.2.2, ⟨1, false, by8 g.2.1⟩)] g.2.2.1) (fun g => s.size - g.1) (0, A, 30, 4) ⟨by simp, hT0, by simp, by simp⟩ ?_ ?_
  · refine Fit.mk _ _ _ (by simp [conv2, newEmp, convs_refl, convs, conv]) (by simp [heapFit, newEmp, conv2s, conv2, convs_refl, convs, conv]) (by intro q hq; first | (simp at hq; done) | (simp at hq; omega) | (simp at hq; simp; omega))
  rintro ⟨i, acc, nx, r⟩ ⟨hi', hv, hlen, hr⟩
  dsimp only at hi' hv hlen hr ⊢
  have hN : (∀ q, (r = nx + q) = False) ∧ (∀ q, (nx + q = r) = False) ∧ (∀ q, r < nx + q) ∧ (∀ q, (nx + q < nx) = False) := by
    refine ⟨?_, ?_, ?_, ?_⟩ <;> first | exact fun q => eq_false (by omega) | exact fun q => by omega
  repeat refine AW.seq ?_
  refine AW.reg ?_
  by_cases hlt : i < s.size
  · have hby : acc.length + 1 ≤ 140737488355328 := by omega
    have hby2 : acc.length + 1 ≤ 9223372036854775807 := by omega
    have hli : (i : Int) < s.size := by omega
    have hlt' : i < s.data.toList.length := by omega
    have hld : i < s.data.size := hlt
    obtain ⟨x, hx⟩ : ∃ x : Nat, x = (s.data[i]?.getD 0).toNat := ⟨_, rfl⟩
    have hxs := hx.symm
    have hdr : (strB s).drop i = (x : Int) :: (strB s).drop (i + 1) := by
      rw [List.drop_eq_getElem_cons (by rw [strB_len]; exact hlt)]
      congr 1
      rw [hx, Array.getElem?_eq_getElem hld]
      simp [strB]
    have hv2 : (acc ++ [(x : Int)]) ++ (strB s).drop (i + 1) = T := by rw [← hv, hdr]; simp
    have hF := hli
    repeat ((with_reducible show evIs _ (_ :: _) _ _); first | refine wQ ?_ | refine wF ?_ | refine wG ?_ | refine wT ?_ | refine wM ?_ | refine wS ?_ | refine wP ?_)
    clear hF
    repeat refine evDone ?_
    try (show AW _ _ _ _ _)
    repeat refine AW.seq ?_
    refine AW.condT (by simp [hli]) (by simp [hli]) ?_
    refine AW.skip ?_
    show AW _ _ _ _ _
    refine AW.seq (AW.block ?_)
    repeat refine AW.seq ?_
    refine AW.reg ?_
    have hF := And.intro (hli) (And.intro (hxs) (And.intro (hby) (And.intro (hby2) (hN))))
    repeat ((with_reducible show evIs _ (_ :: _) _ _); first | refine wQ ?_ | refine wF ?_ | refine wG ?_ | refine wT ?_ | refine wM ?_ | refine wS ?_ | refine wP ?_)
    clear hF
    repeat refine evDone ?_
    try (show AW _ _ _ _ _)
    refine AW.reg ?_
    have hw : IntKind.i64.wrap ((i : Int) + 1) = (i : Int) + 1 := i64_in _ ⟨by omega, by omega⟩
    have hF := hw
    repeat ((with_reducible show evIs _ (_ :: _) _ _); first | refine wQ ?_ | refine wF ?_ | refine wG ?_ | refine wT ?_ | refine wM ?_ | refine wS ?_ | refine wP ?_)
    clear hF
    repeat refine evDone ?_
    try (show AW _ _ _ _ _)
    refine ⟨(i + 1, acc ++ [(x : Int)], nx + 60, nx + 16), ⟨by dsimp only; omega, hv2, by simp; omega, by dsimp only; omega⟩, by dsimp only; omega, ?_⟩
    refine Fit.mk _ _ _ (by simp [hw, hN, hxs, conv2, newEmp, convs_refl, convs, conv]) (by simp [hw, hN, hxs, heapFit, newEmp, conv2s, conv2, convs_refl, convs, conv]) (by intro q hq; first | (simp at hq; done) | (simp at hq; omega) | (simp at hq; simp; omega))
  · have hli : ¬ (i : Int) < s.size := by omega
    have hT2 : T = acc := by rw [← hv, List.drop_eq_nil_of_le (by rw [strB_len]; omega)]; simp
    have htk : List.take acc.length (by8 acc) = by8 acc := List.take_of_length_le (by simp)
    have hF := hli
    repeat ((with_reducible show evIs _ (_ :: _) _ _); first | refine wQ ?_ | refine wF ?_ | refine wG ?_ | refine wT ?_ | refine wM ?_ | refine wS ?_ | refine wP ?_)
    clear hF
    repeat refine evDone ?_
    try (show AW _ _ _ _ _)
    repeat refine AW.seq ?_
    refine AW.condF (by simp [hli]) (by simp [hli]) ?_
    refine AW.exit ?_
    show AW _ _ _ _ _
    repeat refine AW.seq ?_
    refine AW.reg ?_
    have hF := hN
    repeat ((with_reducible show evIs _ (_ :: _) _ _); first | refine wQ ?_ | refine wF ?_ | refine wG ?_ | refine wT ?_ | refine wM ?_ | refine wS ?_ | refine wP ?_)
    clear hF
    repeat refine evDone ?_
    try (show AW _ _ _ _ _)
    refine AW.ret (retI rfl ?_)
    simp [hT2, hN, htk, c94_res, resOk, resP, resV, ARes.op, R2s, R2, R1s, R1, closeOk, closeV]
end Go.Proofs.Ytdnpnokplfemfaa

set_option linter.unusedSimpArgs false
set_option linter.unusedVariables false
set_option maxHeartbeats 8000000
namespace Go.Proofs.Ytdnpnokplfemfaa
open Go Go.Amb Go.IntWalk

theorem f93L (bs : List Int) (n : Int) (hb : bs.length ≤ 140737488355000) (h0 : -9223372036854775808 ≤ n) (h1 : n ≤ 9223372036854775807) : ACall Try.prog 93 [.sl .fro (byL bs), .int .i64 n] (· = .sl (.own 1) (byL (bs ++ intB n))) := f93 bs n hb h0 h1
theorem f94L (bs : List Int) (s : ByteArray) (hb : bs.length + s.size ≤ 140737488354000) : ACall Try.prog 94 [.sl .fro (byL bs), .str s] (· = .sl (.own 1) (byL (bs ++ txtB s))) := f94 bs s hb
mutual
/-- The numbers are of their kind. -/
def rngV : Val → Prop
  | .mk k n _ is _ => (-9223372036854775808 ≤ k ∧ k ≤ 9223372036854775807) ∧ (-9223372036854775808 ≤ n ∧ n ≤ 9223372036854775807) ∧ rngsV is
def rngsV : List Val → Prop
  | [] => True
  | v :: vs => rngV v ∧ rngsV vs
end
theorem rngs_mem {vs : List Val} (h : rngsV vs) {v : Val} (hv : v ∈ vs) : rngV v := by
  induction vs with
  | nil => simp at hv
  | cons w vs ih =>
    rw [rngsV] at h
    rcases List.mem_cons.1 hv with rfl | hv
    · exact h.1
    · exact ih h.2 hv
theorem f63_step (m : Nat) (ih : ∀ v : Val, v.sz < m → v.okv → wfV true v = true → rngV v → ∀ bs : List Int, bs.length + (encV v).length ≤ 70368744177664 → ACall Try.prog 63 [.sl .fro (byL bs), v.av] (· = .sl .fro (byL (bs ++ encV v))))
    (v : Val) (hm : v.sz ≤ m) (hok : v.okv) (hwv : wfV true v = true) (hr : rngV v) (bs : List Int) (hlen : bs.length + (encV v).length ≤ 70368744177664) : ACall Try.prog 63 [.sl .fro (byL bs), v.av] (· = .sl .fro (byL (bs ++ encV v))) := by
  obtain ⟨k, n, t, is, ks⟩ := v
  obtain ⟨T, hT⟩ : ∃ T, T = bs ++ encV (.mk k n t is ks) := ⟨_, rfl⟩
  rw [← hT]
  have hTl : T.length ≤ 70368744177664 := by rw [hT, List.length_append]; exact hlen
  clear hlen
  rw [rngV] at hr
  have hr1 : True ∧ (-9223372036854775808 ≤ n ∧ n ≤ 9223372036854775807) := ⟨trivial, hr.2.1⟩
  have hr3 := hr.2.2
  simp only [Val.av, Val.sz, Val.okv] at hm hok ⊢
  obtain ⟨ho1, ho2, ho3⟩ := hok
  have hcl := byL_cl
  have hwi : wfsV true is = true := by rw [wfV, Bool.and_eq_true] at hwv; exact hwv.2
  have hbl : bs.length ≤ T.length := by rw [hT]; simp
  rcases wf_kind hwv with ⟨rfl, rfl⟩ | rfl | rfl | rfl | rfl | rfl | rfl
  · have hT0 : T = bs ++ intB 0 := by rw [hT, encV, if_neg (by omega), if_neg (by omega), if_neg (by omega), encsV]; simp
    have h93 := f93L bs 0 (by omega) (by omega) (by omega)
    rw [← hT0] at h93
    refine c63_of (by simp) ?_
    repeat refine AW.seq ?_
    refine AW.reg ?_
    have hF := True.intro
    repeat ((with_reducible show evIs _ (_ :: _) _ _); first | refine wQ ?_ | refine wF ?_ | refine wG ?_ | refine wT ?_ | refine wM ?_ | refine wS ?_ | refine wP ?_)
    clear hF
    repeat refine evDone ?_
    try (show AW _ _ _ _ _)
    repeat refine AW.seq ?_
    refine AW.reg ?_
    have hF := True.intro
    repeat ((with_reducible show evIs _ (_ :: _) _ _); first | refine wQ ?_ | refine wF ?_ | refine wG ?_ | refine wT ?_ | refine wM ?_ | refine wS ?_ | refine wP ?_)
    clear hF
    repeat refine evDone ?_
    try (show AW _ _ _ _ _)
    have hF := hcl
    refine wC (hA := h93) ?_
    clear hF
    have hF := True.intro
    repeat ((with_reducible show evIs _ (_ :: _) _ _); first | refine wQ ?_ | refine wF ?_ | refine wG ?_ | refine wT ?_ | refine wM ?_ | refine wS ?_ | refine wP ?_)
    clear hF
    repeat refine evDone ?_
    try (show AW _ _ _ _ _)
    repeat refine AW.seq ?_
    refine AW.reg ?_
    have hF := True.intro
    repeat ((with_reducible show evIs _ (_ :: _) _ _); first | refine wQ ?_ | refine wF ?_ | refine wG ?_ | refine wT ?_ | refine wM ?_ | refine wS ?_ | refine wP ?_)
    clear hF
    repeat refine evDone ?_
    try (show AW _ _ _ _ _)
    repeat refine AW.seq ?_
    refine AW.block ?_
    repeat refine AW.seq ?_
    refine AW.reg ?_
    have hF := True.intro
    repeat ((with_reducible show evIs _ (_ :: _) _ _); first | refine wQ ?_ | refine wF ?_ | refine wG ?_ | refine wT ?_ | refine wM ?_ | refine wS ?_ | refine wP ?_)
    clear hF
    repeat refine evDone ?_
    try (show AW _ _ _ _ _)
    repeat refine AW.seq ?_
    refine AW.condF (by simp []) (by simp []) ?_
    repeat refine AW.seq ?_
    refine AW.reg ?_
    have hF := True.intro
    repeat ((with_reducible show evIs _ (_ :: _) _ _); first | refine wQ ?_ | refine wF ?_ | refine wG ?_ | refine wT ?_ | refine wM ?_ | refine wS ?_ | refine wP ?_)
    clear hF
    repeat refine evDone ?_
    try (show AW _ _ _ _ _)
    repeat refine AW.seq ?_
    refine AW.condF (by simp []) (by simp []) ?_
    repeat refine AW.seq ?_
    refine AW.reg ?_
    have hF := True.intro
    repeat ((with_reducible show evIs _ (_ :: _) _ _); first | refine wQ ?_ | refine wF ?_ | refine wG ?_ | refine wT ?_ | refine wM ?_ | refine wS ?_ | refine wP ?_)
    clear hF
    repeat refine evDone ?_
    try (show AW _ _ _ _ _)
    repeat refine AW.seq ?_
    refine AW.condF (by simp []) (by simp []) ?_
    repeat refine AW.seq ?_
    refine AW.reg ?_
    have hF := True.intro
    repeat ((with_reducible show evIs _ (_ :: _) _ _); first | refine wQ ?_ | refine wF ?_ | refine wG ?_ | refine wT ?_ | refine wM ?_ | refine wS ?_ | refine wP ?_)
    clear hF
    repeat refine evDone ?_
    try (show AW _ _ _ _ _)
    repeat refine AW.seq ?_
    refine AW.condF (by simp []) (by simp []) ?_
    repeat refine AW.seq ?_
    refine AW.reg ?_
    have hF := True.intro
    repeat ((with_reducible show evIs _ (_ :: _) _ _); first | refine wQ ?_ | refine wF ?_ | refine wG ?_ | refine wT ?_ | refine wM ?_ | refine wS ?_ | refine wP ?_)
    clear hF
    repeat refine evDone ?_
    try (show AW _ _ _ _ _)
    repeat refine AW.seq ?_
    refine AW.condF (by simp []) (by simp []) ?_
    repeat refine AW.seq ?_
    refine AW.reg ?_
    have hF := True.intro
    repeat ((with_reducible show evIs _ (_ :: _) _ _); first | refine wQ ?_ | refine wF ?_ | refine wG ?_ | refine wT ?_ | refine wM ?_ | refine wS ?_ | refine wP ?_)
    clear hF
    repeat refine evDone ?_
    try (show AW _ _ _ _ _)
    repeat refine AW.seq ?_
    refine AW.condF (by simp []) (by simp []) ?_
    refine AW.skip ?_
    show AW _ _ _ _ _
    repeat refine AW.seq ?_
    refine AW.reg ?_
    have hF := True.intro
    repeat ((with_reducible show evIs _ (_ :: _) _ _); first | refine wQ ?_ | refine wF ?_ | refine wG ?_ | refine wT ?_ | refine wM ?_ | refine wS ?_ | refine wP ?_)
    clear hF
    repeat refine evDone ?_
    try (show AW _ _ _ _ _)
    refine AW.ret (retI rfl ?_)
    simp [c63_res, resOk, resP, resV, ARes.op, R2s, R2, R1s, R1, closeOk, closeV]
  · have hT0 : T = bs ++ intB 1 ++ intB n := by rw [hT, encV, if_pos (by omega)]; simp
    have hl0 := congrArg List.length hT0
    simp only [List.length_append] at hl0
    have h93n := f93L (bs ++ intB 1) n (by simp; omega) hr1.2.1 hr1.2.2
    rw [← hT0] at h93n
    have h93 := f93L bs 1 (by omega) (by omega) (by omega)
    refine c63_of (by simp) ?_
    repeat refine AW.seq ?_
    refine AW.reg ?_
    have hF := True.intro
    repeat ((with_reducible show evIs _ (_ :: _) _ _); first | refine wQ ?_ | refine wF ?_ | refine wG ?_ | refine wT ?_ | refine wM ?_ | refine wS ?_ | refine wP ?_)
    clear hF
    repeat refine evDone ?_
    try (show AW _ _ _ _ _)
    repeat refine AW.seq ?_
    refine AW.reg ?_
    have hF := True.intro
    repeat ((with_reducible show evIs _ (_ :: _) _ _); first | refine wQ ?_ | refine wF ?_ | refine wG ?_ | refine wT ?_ | refine wM ?_ | refine wS ?_ | refine wP ?_)
    clear hF
    repeat refine evDone ?_
    try (show AW _ _ _ _ _)
    have hF := hcl
    refine wC (hA := h93) ?_
    clear hF
    have hF := True.intro
    repeat ((with_reducible show evIs _ (_ :: _) _ _); first | refine wQ ?_ | refine wF ?_ | refine wG ?_ | refine wT ?_ | refine wM ?_ | refine wS ?_ | refine wP ?_)
    clear hF
    repeat refine evDone ?_
    try (show AW _ _ _ _ _)
    repeat refine AW.seq ?_
    refine AW.reg ?_
    have hF := True.intro
    repeat ((with_reducible show evIs _ (_ :: _) _ _); first | refine wQ ?_ | refine wF ?_ | refine wG ?_ | refine wT ?_ | refine wM ?_ | refine wS ?_ | refine wP ?_)
    clear hF
    repeat refine evDone ?_
    try (show AW _ _ _ _ _)
    repeat refine AW.seq ?_
    refine AW.block ?_
    repeat refine AW.seq ?_
    refine AW.reg ?_
    have hF := True.intro
    repeat ((with_reducible show evIs _ (_ :: _) _ _); first | refine wQ ?_ | refine wF ?_ | refine wG ?_ | refine wT ?_ | refine wM ?_ | refine wS ?_ | refine wP ?_)
    clear hF
    repeat refine evDone ?_
    try (show AW _ _ _ _ _)
    repeat refine AW.seq ?_
    refine AW.condT (by simp []) (by simp []) ?_
    refine AW.skip ?_
    show AW _ _ _ _ _
    repeat refine AW.seq ?_
    refine AW.condT (by simp []) (by simp []) ?_
    repeat refine AW.seq ?_
    refine AW.reg ?_
    have hF := True.intro
    repeat ((with_reducible show evIs _ (_ :: _) _ _); first | refine wQ ?_ | refine wF ?_ | refine wG ?_ | refine wT ?_ | refine wM ?_ | refine wS ?_ | refine wP ?_)
    clear hF
    repeat refine evDone ?_
    try (show AW _ _ _ _ _)
    have hF := hcl
    refine wC (hA := h93n) ?_
    clear hF
    have hF := True.intro
    repeat ((with_reducible show evIs _ (_ :: _) _ _); first | refine wQ ?_ | refine wF ?_ | refine wG ?_ | refine wT ?_ | refine wM ?_ | refine wS ?_ | refine wP ?_)
    clear hF
    repeat refine evDone ?_
    try (show AW _ _ _ _ _)
    repeat refine AW.seq ?_
    refine AW.reg ?_
    have hF := True.intro
    repeat ((with_reducible show evIs _ (_ :: _) _ _); first | refine wQ ?_ | refine wF ?_ | refine wG ?_ | refine wT ?_ | refine wM ?_ | refine wS ?_ | refine wP ?_)
    clear hF
    repeat refine evDone ?_
    try (show AW _ _ _ _ _)
    refine AW.ret (retI rfl ?_)
    simp [c63_res, resOk, resP, resV, ARes.op, R2s, R2, R1s, R1, closeOk, closeV]
  · have hT0 : T = bs ++ intB 2 ++ intB n := by rw [hT, encV, if_pos (by omega)]; simp
    have hl0 := congrArg List.length hT0
    simp only [List.length_append] at hl0
    have h93n := f93L (bs ++ intB 2) n (by simp; omega) hr1.2.1 hr1.2.2
    rw [← hT0] at h93n
    have h93 := f93L bs 2 (by omega) (by omega) (by omega)
    refine c63_of (by simp) ?_
    repeat refine AW.seq ?_
    refine AW.reg ?_
    have hF := True.intro
    repeat ((with_reducible show evIs _ (_ :: _) _ _); first | refine wQ ?_ | refine wF ?_ | refine wG ?_ | refine wT ?_ | refine wM ?_ | refine wS ?_ | refine wP ?_)
    clear hF
    repeat refine evDone ?_
    try (show AW _ _ _ _ _)
    repeat refine AW.seq ?_
    refine AW.reg ?_
    have hF := True.intro
    repeat ((with_reducible show evIs _ (_ :: _) _ _); first | refine wQ ?_ | refine wF ?_ | refine wG ?_ | refine wT ?_ | refine wM ?_ | refine wS ?_ | refine wP ?_)
    clear hF
    repeat refine evDone ?_
    try (show AW _ _ _ _ _)
    have hF := hcl
    refine wC (hA := h93) ?_
    clear hF
    have hF := True.intro
    repeat ((with_reducible show evIs _ (_ :: _) _ _); first | refine wQ ?_ | refine wF ?_ | refine wG ?_ | refine wT ?_ | refine wM ?_ | refine wS ?_ | refine wP ?_)
    clear hF
    repeat refine evDone ?_
    try (show AW _ _ _ _ _)
    repeat refine AW.seq ?_
    refine AW.reg ?_
    have hF := True.intro
    repeat ((with_reducible show evIs _ (_ :: _) _ _); first | refine wQ ?_ | refine wF ?_ | refine wG ?_ | refine wT ?_ | refine wM ?_ | refine wS ?_ | refine wP ?_)
    clear hF
    repeat refine evDone ?_
    try (show AW _ _ _ _ _)
    repeat refine AW.seq ?_
    refine AW.block ?_
    repeat refine AW.seq ?_
    refine AW.reg ?_
    have hF := True.intro
    repeat ((with_reducible show evIs _ (_ :: _) _ _); first | refine wQ ?_ | refine wF ?_ | refine wG ?_ | refine wT ?_ | refine wM ?_ | refine wS ?_ | refine wP ?_)
    clear hF
    repeat refine evDone ?_
    try (show AW _ _ _ _ _)
    repeat refine AW.seq ?_
    refine AW.condF (by simp []) (by simp []) ?_
    repeat refine AW.seq ?_
    refine AW.reg ?_
    have hF := True.intro
    repeat ((with_reducible show evIs _ (_ :: _) _ _); first | refine wQ ?_ | refine wF ?_ | refine wG ?_ | refine wT ?_ | refine wM ?_ | refine wS ?_ | refine wP ?_)
    clear hF
    repeat refine evDone ?_
    try (show AW _ _ _ _ _)
    repeat refine AW.seq ?_
    refine AW.condT (by simp []) (by simp []) ?_
    refine AW.skip ?_
    show AW _ _ _ _ _
    repeat refine AW.seq ?_
    refine AW.condT (by simp []) (by simp []) ?_
    repeat refine AW.seq ?_
    refine AW.reg ?_
    have hF := True.intro
    repeat ((with_reducible show evIs _ (_ :: _) _ _); first | refine wQ ?_ | refine wF ?_ | refine wG ?_ | refine wT ?_ | refine wM ?_ | refine wS ?_ | refine wP ?_)
    clear hF
    repeat refine evDone ?_
    try (show AW _ _ _ _ _)
    have hF := hcl
    refine wC (hA := h93n) ?_
    clear hF
    have hF := True.intro
    repeat ((with_reducible show evIs _ (_ :: _) _ _); first | refine wQ ?_ | refine wF ?_ | refine wG ?_ | refine wT ?_ | refine wM ?_ | refine wS ?_ | refine wP ?_)
    clear hF
    repeat refine evDone ?_
    try (show AW _ _ _ _ _)
    repeat refine AW.seq ?_
    refine AW.reg ?_
    have hF := True.intro
    repeat ((with_reducible show evIs _ (_ :: _) _ _); first | refine wQ ?_ | refine wF ?_ | refine wG ?_ | refine wT ?_ | refine wM ?_ | refine wS ?_ | refine wP ?_)
    clear hF
    repeat refine evDone ?_
    try (show AW _ _ _ _ _)
    refine AW.ret (retI rfl ?_)
    simp [c63_res, resOk, resP, resV, ARes.op, R2s, R2, R1s, R1, closeOk, closeV]
  · have hT0 : T = bs ++ intB 3 ++ txtB t := by rw [hT, encV, if_neg (by omega), if_pos rfl]; simp
    have hl0 := congrArg List.length hT0
    simp only [List.length_append] at hl0
    have htl := txtB_len t
    have h94 := f94L (bs ++ intB 3) t (by simp; omega)
    rw [← hT0] at h94
    have h93 := f93L bs 3 (by omega) (by omega) (by omega)
    refine c63_of (by simp) ?_
    repeat refine AW.seq ?_
    refine AW.reg ?_
    have hF := True.intro
    repeat ((with_reducible show evIs _ (_ :: _) _ _); first | refine wQ ?_ | refine wF ?_ | refine wG ?_ | refine wT ?_ | refine wM ?_ | refine wS ?_ | refine wP ?_)
    clear hF
    repeat refine evDone ?_
    try (show AW _ _ _ _ _)
    repeat refine AW.seq ?_
    refine AW.reg ?_
    have hF := True.intro
    repeat ((with_reducible show evIs _ (_ :: _) _ _); first | refine wQ ?_ | refine wF ?_ | refine wG ?_ | refine wT ?_ | refine wM ?_ | refine wS ?_ | refine wP ?_)
    clear hF
    repeat refine evDone ?_
    try (show AW _ _ _ _ _)
    have hF := hcl
    refine wC (hA := h93) ?_
    clear hF
    have hF := True.intro
    repeat ((with_reducible show evIs _ (_ :: _) _ _); first | refine wQ ?_ | refine wF ?_ | refine wG ?_ | refine wT ?_ | refine wM ?_ | refine wS ?_ | refine wP ?_)
    clear hF
    repeat refine evDone ?_
    try (show AW _ _ _ _ _)
    repeat refine AW.seq ?_
    refine AW.reg ?_
    have hF := True.intro
    repeat ((with_reducible show evIs _ (_ :: _) _ _); first | refine wQ ?_ | refine wF ?_ | refine wG ?_ | refine wT ?_ | refine wM ?_ | refine wS ?_ | refine wP ?_)
    clear hF
    repeat refine evDone ?_
    try (show AW _ _ _ _ _)
    repeat refine AW.seq ?_
    refine AW.block ?_
    repeat refine AW.seq ?_
    refine AW.reg ?_
    have hF := True.intro
    repeat ((with_reducible show evIs _ (_ :: _) _ _); first | refine wQ ?_ | refine wF ?_ | refine wG ?_ | refine wT ?_ | refine wM ?_ | refine wS ?_ | refine wP ?_)
    clear hF
    repeat refine evDone ?_
    try (show AW _ _ _ _ _)
    repeat refine AW.seq ?_
    refine AW.condF (by simp []) (by simp []) ?_
    repeat refine AW.seq ?_
    refine AW.reg ?_
    have hF := True.intro
    repeat ((with_reducible show evIs _ (_ :: _) _ _); first | refine wQ ?_ | refine wF ?_ | refine wG ?_ | refine wT ?_ | refine wM ?_ | refine wS ?_ | refine wP ?_)
    clear hF
    repeat refine evDone ?_
    try (show AW _ _ _ _ _)
    repeat refine AW.seq ?_
    refine AW.condF (by simp []) (by simp []) ?_
    repeat refine AW.seq ?_
    refine AW.reg ?_
    have hF := True.intro
    repeat ((with_reducible show evIs _ (_ :: _) _ _); first | refine wQ ?_ | refine wF ?_ | refine wG ?_ | refine wT ?_ | refine wM ?_ | refine wS ?_ | refine wP ?_)
    clear hF
    repeat refine evDone ?_
    try (show AW _ _ _ _ _)
    repeat refine AW.seq ?_
    refine AW.condF (by simp []) (by simp []) ?_
    repeat refine AW.seq ?_
    refine AW.reg ?_
    have hF := True.intro
    repeat ((with_reducible show evIs _ (_ :: _) _ _); first | refine wQ ?_ | refine wF ?_ | refine wG ?_ | refine wT ?_ | refine wM ?_ | refine wS ?_ | refine wP ?_)
    clear hF
    repeat refine evDone ?_
    try (show AW _ _ _ _ _)
    repeat refine AW.seq ?_
    refine AW.condT (by simp []) (by simp []) ?_
    repeat refine AW.seq ?_
    refine AW.reg ?_
    have hF := True.intro
    repeat ((with_reducible show evIs _ (_ :: _) _ _); first | refine wQ ?_ | refine wF ?_ | refine wG ?_ | refine wT ?_ | refine wM ?_ | refine wS ?_ | refine wP ?_)
    clear hF
    repeat refine evDone ?_
    try (show AW _ _ _ _ _)
    have hF := hcl
    refine wC (hA := h94) ?_
    clear hF
    have hF := True.intro
    repeat ((with_reducible show evIs _ (_ :: _) _ _); first | refine wQ ?_ | refine wF ?_ | refine wG ?_ | refine wT ?_ | refine wM ?_ | refine wS ?_ | refine wP ?_)
    clear hF
    repeat refine evDone ?_
    try (show AW _ _ _ _ _)
    repeat refine AW.seq ?_
    refine AW.reg ?_
    have hF := True.intro
    repeat ((with_reducible show evIs _ (_ :: _) _ _); first | refine wQ ?_ | refine wF ?_ | refine wG ?_ | refine wT ?_ | refine wM ?_ | refine wS ?_ | refine wP ?_)
    clear hF
    repeat refine evDone ?_
    try (show AW _ _ _ _ _)
    refine AW.ret (retI rfl ?_)
    simp [c63_res, resOk, resP, resV, ARes.op, R2s, R2, R1s, R1, closeOk, closeV]
  · have hT0 : bs ++ (intB 4 ++ (intB is.length ++ encsV false is ks)) = T := by rw [hT, encV, if_neg (by omega), if_neg (by omega), if_pos (by omega)]; simp
    have hl0 := congrArg List.length hT0
    simp only [List.length_append] at hl0
    have h93n := f93L (bs ++ intB 4) is.length (by simp; omega) (by omega) (by omega)
    have h93 := f93L bs 4 (by omega) (by omega) (by omega)
    refine c63_of (by simp) ?_
    repeat refine AW.seq ?_
    refine AW.reg ?_
    have hF := True.intro
    repeat ((with_reducible show evIs _ (_ :: _) _ _); first | refine wQ ?_ | refine wF ?_ | refine wG ?_ | refine wT ?_ | refine wM ?_ | refine wS ?_ | refine wP ?_)
    clear hF
    repeat refine evDone ?_
    try (show AW _ _ _ _ _)
    repeat refine AW.seq ?_
    refine AW.reg ?_
    have hF := True.intro
    repeat ((with_reducible show evIs _ (_ :: _) _ _); first | refine wQ ?_ | refine wF ?_ | refine wG ?_ | refine wT ?_ | refine wM ?_ | refine wS ?_ | refine wP ?_)
    clear hF
    repeat refine evDone ?_
    try (show AW _ _ _ _ _)
    have hF := hcl
    refine wC (hA := h93) ?_
    clear hF
    have hF := True.intro
    repeat ((with_reducible show evIs _ (_ :: _) _ _); first | refine wQ ?_ | refine wF ?_ | refine wG ?_ | refine wT ?_ | refine wM ?_ | refine wS ?_ | refine wP ?_)
    clear hF
    repeat refine evDone ?_
    try (show AW _ _ _ _ _)
    repeat refine AW.seq ?_
    refine AW.reg ?_
    have hF := True.intro
    repeat ((with_reducible show evIs _ (_ :: _) _ _); first | refine wQ ?_ | refine wF ?_ | refine wG ?_ | refine wT ?_ | refine wM ?_ | refine wS ?_ | refine wP ?_)
    clear hF
    repeat refine evDone ?_
    try (show AW _ _ _ _ _)
    repeat refine AW.seq ?_
    refine AW.block ?_
    repeat refine AW.seq ?_
    refine AW.reg ?_
    have hF := True.intro
    repeat ((with_reducible show evIs _ (_ :: _) _ _); first | refine wQ ?_ | refine wF ?_ | refine wG ?_ | refine wT ?_ | refine wM ?_ | refine wS ?_ | refine wP ?_)
    clear hF
    repeat refine evDone ?_
    try (show AW _ _ _ _ _)
    repeat refine AW.seq ?_
    refine AW.condF (by simp []) (by simp []) ?_
    repeat refine AW.seq ?_
    refine AW.reg ?_
    have hF := True.intro
    repeat ((with_reducible show evIs _ (_ :: _) _ _); first | refine wQ ?_ | refine wF ?_ | refine wG ?_ | refine wT ?_ | refine wM ?_ | refine wS ?_ | refine wP ?_)
    clear hF
    repeat refine evDone ?_
    try (show AW _ _ _ _ _)
    repeat refine AW.seq ?_
    refine AW.condF (by simp []) (by simp []) ?_
    repeat refine AW.seq ?_
    refine AW.reg ?_
    have hF := True.intro
    repeat ((with_reducible show evIs _ (_ :: _) _ _); first | refine wQ ?_ | refine wF ?_ | refine wG ?_ | refine wT ?_ | refine wM ?_ | refine wS ?_ | refine wP ?_)
    clear hF
    repeat refine evDone ?_
    try (show AW _ _ _ _ _)
    repeat refine AW.seq ?_
    refine AW.condF (by simp []) (by simp []) ?_
    repeat refine AW.seq ?_
    refine AW.reg ?_
    have hF := True.intro
    repeat ((with_reducible show evIs _ (_ :: _) _ _); first | refine wQ ?_ | refine wF ?_ | refine wG ?_ | refine wT ?_ | refine wM ?_ | refine wS ?_ | refine wP ?_)
    clear hF
    repeat refine evDone ?_
    try (show AW _ _ _ _ _)
    repeat refine AW.seq ?_
    refine AW.condF (by simp []) (by simp []) ?_
    repeat refine AW.seq ?_
    refine AW.reg ?_
    have hF := True.intro
    repeat ((with_reducible show evIs _ (_ :: _) _ _); first | refine wQ ?_ | refine wF ?_ | refine wG ?_ | refine wT ?_ | refine wM ?_ | refine wS ?_ | refine wP ?_)
    clear hF
    repeat refine evDone ?_
    try (show AW _ _ _ _ _)
    repeat refine AW.seq ?_
    refine AW.condT (by simp []) (by simp []) ?_
    refine AW.skip ?_
    show AW _ _ _ _ _
    repeat refine AW.seq ?_
    refine AW.condT (by simp []) (by simp []) ?_
    repeat refine AW.seq ?_
    refine AW.reg ?_
    have hF := True.intro
    repeat ((with_reducible show evIs _ (_ :: _) _ _); first | refine wQ ?_ | refine wF ?_ | refine wG ?_ | refine wT ?_ | refine wM ?_ | refine wS ?_ | refine wP ?_)
    clear hF
    repeat refine evDone ?_
    try (show AW _ _ _ _ _)
    have hF := hcl
    refine wC (hA := h93n) ?_
    clear hF
    have hF := True.intro
    repeat ((with_reducible show evIs _ (_ :: _) _ _); first | refine wQ ?_ | refine wF ?_ | refine wG ?_ | refine wT ?_ | refine wM ?_ | refine wS ?_ | refine wP ?_)
    clear hF
    repeat refine evDone ?_
    try (show AW _ _ _ _ _)
    repeat refine AW.seq ?_
    refine AW.reg ?_
    have hF := True.intro
    repeat ((with_reducible show evIs _ (_ :: _) _ _); first | refine wQ ?_ | refine wF ?_ | refine wG ?_ | refine wT ?_ | refine wM ?_ | refine wS ?_ | refine wP ?_)
    clear hF
    repeat refine evDone ?_
    try (show AW _ _ _ _ _)
    repeat refine AW.seq ?_
    refine AW.block ?_
    refine AW.loop (fun g : Nat × List Int => g.1 ≤ is.length ∧ g.2 ++ encsV false (is.drop g.1) (ks.drop g.1) = T) (fun g => mkS [(0, .sl .fro (byL g.2)), (3, .ptr 0 0 0), (5, .int .i64 g.1)] [(0, ⟨5, true, [.agg [.int .i64 4, .int .i64 n, .str t, .sl .fro (avs is), .sl .fro (ks.map .str)]]⟩)] 60) (fun g => is.length - g.1) (0, bs ++ intB 4 ++ intB is.length) ⟨by simp, by simpa using hT0⟩ ?_ ?_
    · refine Fit.mk _ _ _ (by simp [conv2, newEmp, convs_refl, convs, conv]) (by simp [heapFit, newEmp, conv2s, conv2, convs_refl, convs, conv]) (by intro q hq; first | (simp at hq; done) | (simp at hq; omega) | (simp at hq; simp; omega))
    rintro ⟨i, acc⟩ ⟨hi, hT⟩
    dsimp only at hi hT ⊢
    repeat refine AW.seq ?_
    refine AW.reg ?_
    by_cases hlt : i < is.length
    · obtain ⟨x, hx⟩ : ∃ x, is[i]? = some x := ⟨_, List.getElem?_eq_getElem hlt⟩
      have he := elem_map (f := Val.av) hx
      rw [← vals_map] at he
      have hxm := List.mem_of_getElem? hx
      have hst := encs_step (m := false) (a := ⟨#[]⟩) (ks := ks) hx (fun h => by cases h)
      rw [hst] at hT
      simp only [Bool.false_eq_true, if_false, List.nil_append] at hT
      have hTl : T.length = acc.length + (encV x).length + (encsV false (is.drop (i + 1)) (ks.drop (i + 1))).length := by rw [← hT]; simp; omega
      have hcall := ih x (by have := szs_mem hxm; omega) (okvs_mem ho3 hxm) (wfsV_mem hwi hxm) (rngs_mem hr3 hxm) acc (by omega)
      have hacc : (acc ++ encV x) ++ encsV false (is.drop (i + 1)) (ks.drop (i + 1)) = T := by rw [← hT]; simp
      obtain ⟨E, hE⟩ : ∃ E, E = encV x := ⟨_, rfl⟩
      rw [← hE] at hcall hacc
      obtain ⟨xk, xn, xt, xi, xs⟩ := x
      simp only [Val.av] at he hcall
      have hF := hlt
      repeat ((with_reducible show evIs _ (_ :: _) _ _); first | refine wQ ?_ | refine wF ?_ | refine wG ?_ | refine wT ?_ | refine wM ?_ | refine wS ?_ | refine wP ?_)
      clear hF
      repeat refine evDone ?_
      try (show AW _ _ _ _ _)
      repeat refine AW.seq ?_
      refine AW.condT (by simp []) (by simp []) ?_
      refine AW.skip ?_
      show AW _ _ _ _ _
      refine AW.seq (AW.block ?_)
      repeat refine AW.seq ?_
      refine AW.reg ?_
      have hF := True.intro
      repeat ((with_reducible show evIs _ (_ :: _) _ _); first | refine wQ ?_ | refine wF ?_ | refine wG ?_ | refine wT ?_ | refine wM ?_ | refine wS ?_ | refine wP ?_)
      clear hF
      repeat refine evDone ?_
      try (show AW _ _ _ _ _)
      repeat refine AW.seq ?_
      refine AW.condF (by simp []) (by simp []) ?_
      refine AW.skip ?_
      show AW _ _ _ _ _
      repeat refine AW.seq ?_
      refine AW.reg ?_
      have hF := And.intro (hlt) (he)
      repeat ((with_reducible show evIs _ (_ :: _) _ _); first | refine wQ ?_ | refine wF ?_ | refine wG ?_ | refine wT ?_ | refine wM ?_ | refine wS ?_ | refine wP ?_)
      clear hF
      repeat refine evDone ?_
      try (show AW _ _ _ _ _)
      have hF := hcl
      refine wC (hA := hcall) ?_
      clear hF
      have hF := True.intro
      repeat ((with_reducible show evIs _ (_ :: _) _ _); first | refine wQ ?_ | refine wF ?_ | refine wG ?_ | refine wT ?_ | refine wM ?_ | refine wS ?_ | refine wP ?_)
      clear hF
      repeat refine evDone ?_
      try (show AW _ _ _ _ _)
      refine AW.reg ?_
      have hw : IntKind.i64.wrap ((i : Int) + 1) = (i : Int) + 1 := i64_in _ ⟨by omega, by omega⟩
      have hF := hw
      repeat ((with_reducible show evIs _ (_ :: _) _ _); first | refine wQ ?_ | refine wF ?_ | refine wG ?_ | refine wT ?_ | refine wM ?_ | refine wS ?_ | refine wP ?_)
      clear hF
      repeat refine evDone ?_
      try (show AW _ _ _ _ _)
      refine ⟨(i + 1, acc ++ E), ⟨by dsimp only; omega, hacc⟩, by dsimp only; omega, ?_⟩
      refine Fit.mk _ _ _ (by simp [hw, conv2, newEmp, convs_refl, convs, conv]) (by simp [hw, heapFit, newEmp, conv2s, conv2, convs_refl, convs, conv]) (by intro q hq; first | (simp at hq; done) | (simp at hq; omega) | (simp at hq; simp; omega))
    · have hlt2 : ¬ (i : Int) < is.length := by omega
      have hTe : T = acc := by
        rw [← hT, List.drop_eq_nil_of_le (by omega), encsV]
        simp
      have hF := And.intro (hlt) (hlt2)
      repeat ((with_reducible show evIs _ (_ :: _) _ _); first | refine wQ ?_ | refine wF ?_ | refine wG ?_ | refine wT ?_ | refine wM ?_ | refine wS ?_ | refine wP ?_)
      clear hF
      repeat refine evDone ?_
      try (show AW _ _ _ _ _)
      repeat refine AW.seq ?_
      refine AW.condF (by simp []) (by simp []) ?_
      refine AW.exit ?_
      show AW _ _ _ _ _
      repeat refine AW.seq ?_
      refine AW.reg ?_
      have hF := True.intro
      repeat ((with_reducible show evIs _ (_ :: _) _ _); first | refine wQ ?_ | refine wF ?_ | refine wG ?_ | refine wT ?_ | refine wM ?_ | refine wS ?_ | refine wP ?_)
      clear hF
      repeat refine evDone ?_
      try (show AW _ _ _ _ _)
      refine AW.ret (retI rfl ?_)
      simp [hTe, c63_res, resOk, resP, resV, ARes.op, R2s, R2, R1s, R1, closeOk, closeV]
  · have hT0 : bs ++ (intB 5 ++ (intB is.length ++ encsV true is ks)) = T := by rw [hT, encV, if_neg (by omega), if_neg (by omega), if_pos (by omega)]; simp
    have hl0 := congrArg List.length hT0
    simp only [List.length_append] at hl0
    have h93n := f93L (bs ++ intB 5) is.length (by simp; omega) (by omega) (by omega)
    have h93 := f93L bs 5 (by omega) (by omega) (by omega)
    refine c63_of (by simp) ?_
    repeat refine AW.seq ?_
    refine AW.reg ?_
    have hF := True.intro
    repeat ((with_reducible show evIs _ (_ :: _) _ _); first | refine wQ ?_ | refine wF ?_ | refine wG ?_ | refine wT ?_ | refine wM ?_ | refine wS ?_ | refine wP ?_)
    clear hF
    repeat refine evDone ?_
    try (show AW _ _ _ _ _)
    repeat refine AW.seq ?_
    refine AW.reg ?_
    have hF := True.intro
    repeat ((with_reducible show evIs _ (_ :: _) _ _); first | refine wQ ?_ | refine wF ?_ | refine wG ?_ | refine wT ?_ | refine wM ?_ | refine wS ?_ | refine wP ?_)
    clear hF
    repeat refine evDone ?_
    try (show AW _ _ _ _ _)
    have hF := hcl
    refine wC (hA := h93) ?_
    clear hF
    have hF := True.intro
    repeat ((with_reducible show evIs _ (_ :: _) _ _); first | refine wQ ?_ | refine wF ?_ | refine wG ?_ | refine wT ?_ | refine wM ?_ | refine wS ?_ | refine wP ?_)
    clear hF
    repeat refine evDone ?_
    try (show AW _ _ _ _ _)
    repeat refine AW.seq ?_
    refine AW.reg ?_
    have hF := True.intro
    repeat ((with_reducible show evIs _ (_ :: _) _ _); first | refine wQ ?_ | refine wF ?_ | refine wG ?_ | refine wT ?_ | refine wM ?_ | refine wS ?_ | refine wP ?_)
    clear hF
    repeat refine evDone ?_
    try (show AW _ _ _ _ _)
    repeat refine AW.seq ?_
    refine AW.block ?_
    repeat refine AW.seq ?_
    refine AW.reg ?_
    have hF := True.intro
    repeat ((with_reducible show evIs _ (_ :: _) _ _); first | refine wQ ?_ | refine wF ?_ | refine wG ?_ | refine wT ?_ | refine wM ?_ | refine wS ?_ | refine wP ?_)
    clear hF
    repeat refine evDone ?_
    try (show AW _ _ _ _ _)
    repeat refine AW.seq ?_
    refine AW.condF (by simp []) (by simp []) ?_
    repeat refine AW.seq ?_
    refine AW.reg ?_
    have hF := True.intro
    repeat ((with_reducible show evIs _ (_ :: _) _ _); first | refine wQ ?_ | refine wF ?_ | refine wG ?_ | refine wT ?_ | refine wM ?_ | refine wS ?_ | refine wP ?_)
    clear hF
    repeat refine evDone ?_
    try (show AW _ _ _ _ _)
    repeat refine AW.seq ?_
    refine AW.condF (by simp []) (by simp []) ?_
    repeat refine AW.seq ?_
    refine AW.reg ?_
    have hF := True.intro
    repeat ((with_reducible show evIs _ (_ :: _) _ _); first | refine wQ ?_ | refine wF ?_ | refine wG ?_ | refine wT ?_ | refine wM ?_ | refine wS ?_ | refine wP ?_)
    clear hF
    repeat refine evDone ?_
    try (show AW _ _ _ _ _)
    repeat refine AW.seq ?_
    refine AW.condF (by simp []) (by simp []) ?_
    repeat refine AW.seq ?_
    refine AW.reg ?_
    have hF := True.intro
    repeat ((with_reducible show evIs _ (_ :: _) _ _); first | refine wQ ?_ | refine wF ?_ | refine wG ?_ | refine wT ?_ | refine wM ?_ | refine wS ?_ | refine wP ?_)
    clear hF
    repeat refine evDone ?_
    try (show AW _ _ _ _ _)
    repeat refine AW.seq ?_
    refine AW.condF (by simp []) (by simp []) ?_
    repeat refine AW.seq ?_
    refine AW.reg ?_
    have hF := True.intro
    repeat ((with_reducible show evIs _ (_ :: _) _ _); first | refine wQ ?_ | refine wF ?_ | refine wG ?_ | refine wT ?_ | refine wM ?_ | refine wS ?_ | refine wP ?_)
    clear hF
    repeat refine evDone ?_
    try (show AW _ _ _ _ _)
    repeat refine AW.seq ?_
    refine AW.condF (by simp []) (by simp []) ?_
    repeat refine AW.seq ?_
    refine AW.reg ?_
    have hF := True.intro
    repeat ((with_reducible show evIs _ (_ :: _) _ _); first | refine wQ ?_ | refine wF ?_ | refine wG ?_ | refine wT ?_ | refine wM ?_ | refine wS ?_ | refine wP ?_)
    clear hF
    repeat refine evDone ?_
    try (show AW _ _ _ _ _)
    repeat refine AW.seq ?_
    refine AW.condT (by simp []) (by simp []) ?_
    repeat refine AW.seq ?_
    refine AW.reg ?_
    have hF := True.intro
    repeat ((with_reducible show evIs _ (_ :: _) _ _); first | refine wQ ?_ | refine wF ?_ | refine wG ?_ | refine wT ?_ | refine wM ?_ | refine wS ?_ | refine wP ?_)
    clear hF
    repeat refine evDone ?_
    try (show AW _ _ _ _ _)
    have hF := hcl
    refine wC (hA := h93n) ?_
    clear hF
    have hF := True.intro
    repeat ((with_reducible show evIs _ (_ :: _) _ _); first | refine wQ ?_ | refine wF ?_ | refine wG ?_ | refine wT ?_ | refine wM ?_ | refine wS ?_ | refine wP ?_)
    clear hF
    repeat refine evDone ?_
    try (show AW _ _ _ _ _)
    repeat refine AW.seq ?_
    refine AW.reg ?_
    have hF := True.intro
    repeat ((with_reducible show evIs _ (_ :: _) _ _); first | refine wQ ?_ | refine wF ?_ | refine wG ?_ | refine wT ?_ | refine wM ?_ | refine wS ?_ | refine wP ?_)
    clear hF
    repeat refine evDone ?_
    try (show AW _ _ _ _ _)
    repeat refine AW.seq ?_
    refine AW.block ?_
    refine AW.loop (fun g : Nat × List Int => g.1 ≤ is.length ∧ g.2 ++ encsV true (is.drop g.1) (ks.drop g.1) = T) (fun g => mkS [(0, .sl .fro (byL g.2)), (3, .ptr 0 0 0), (5, .int .i64 g.1)] [(0, ⟨5, true, [.agg [.int .i64 5, .int .i64 n, .str t, .sl .fro (avs is), .sl .fro (ks.map .str)]]⟩)] 60) (fun g => is.length - g.1) (0, bs ++ intB 5 ++ intB is.length) ⟨by simp, by simpa using hT0⟩ ?_ ?_
    · refine Fit.mk _ _ _ (by simp [conv2, newEmp, convs_refl, convs, conv]) (by simp [heapFit, newEmp, conv2s, conv2, convs_refl, convs, conv]) (by intro q hq; first | (simp at hq; done) | (simp at hq; omega) | (simp at hq; simp; omega))
    rintro ⟨i, acc⟩ ⟨hi, hT⟩
    dsimp only at hi hT ⊢
    repeat refine AW.seq ?_
    refine AW.reg ?_
    by_cases hlt : i < is.length
    · obtain ⟨x, hx⟩ : ∃ x, is[i]? = some x := ⟨_, List.getElem?_eq_getElem hlt⟩
      have he := elem_map (f := Val.av) hx
      rw [← vals_map] at he
      have hxm := List.mem_of_getElem? hx
      have hkl := wf_keys hwv rfl
      obtain ⟨a, ha⟩ : ∃ a, ks[i]? = some a := ⟨_, List.getElem?_eq_getElem (by omega)⟩
      have hea := elem_map (f := AV.str) ha
      have hlk : i < ks.length := by omega
      have hst := encs_step (m := true) hx (fun _ => ha)
      rw [hst] at hT
      simp only [if_true] at hT
      have hTl : T.length = acc.length + ((txtB a).length + (encV x).length) + (encsV true (is.drop (i + 1)) (ks.drop (i + 1))).length := by rw [← hT]; simp; omega
      have htl := txtB_len a
      have h94 := f94L acc a (by omega)
      have hcall := ih x (by have := szs_mem hxm; omega) (okvs_mem ho3 hxm) (wfsV_mem hwi hxm) (rngs_mem hr3 hxm) (acc ++ txtB a) (by simp; omega)
      have hacc : (acc ++ txtB a ++ encV x) ++ encsV true (is.drop (i + 1)) (ks.drop (i + 1)) = T := by rw [← hT]; simp
      obtain ⟨E, hE⟩ : ∃ E, E = encV x := ⟨_, rfl⟩
      rw [← hE] at hcall hacc
      obtain ⟨xk, xn, xt, xi, xs⟩ := x
      simp only [Val.av] at he hcall
      have hF := hlt
      repeat ((with_reducible show evIs _ (_ :: _) _ _); first | refine wQ ?_ | refine wF ?_ | refine wG ?_ | refine wT ?_ | refine wM ?_ | refine wS ?_ | refine wP ?_)
      clear hF
      repeat refine evDone ?_
      try (show AW _ _ _ _ _)
      repeat refine AW.seq ?_
      refine AW.condT (by simp []) (by simp []) ?_
      refine AW.skip ?_
      show AW _ _ _ _ _
      refine AW.seq (AW.block ?_)
      repeat refine AW.seq ?_
      refine AW.reg ?_
      have hF := True.intro
      repeat ((with_reducible show evIs _ (_ :: _) _ _); first | refine wQ ?_ | refine wF ?_ | refine wG ?_ | refine wT ?_ | refine wM ?_ | refine wS ?_ | refine wP ?_)
      clear hF
      repeat refine evDone ?_
      try (show AW _ _ _ _ _)
      repeat refine AW.seq ?_
      refine AW.condT (by simp []) (by simp []) ?_
      repeat refine AW.seq ?_
      refine AW.reg ?_
      have hF := And.intro (hea) (hlk)
      repeat ((with_reducible show evIs _ (_ :: _) _ _); first | refine wQ ?_ | refine wF ?_ | refine wG ?_ | refine wT ?_ | refine wM ?_ | refine wS ?_ | refine wP ?_)
      clear hF
      repeat refine evDone ?_
      try (show AW _ _ _ _ _)
      have hF := hcl
      refine wC (hA := h94) ?_
      clear hF
      have hF := True.intro
      repeat ((with_reducible show evIs _ (_ :: _) _ _); first | refine wQ ?_ | refine wF ?_ | refine wG ?_ | refine wT ?_ | refine wM ?_ | refine wS ?_ | refine wP ?_)
      clear hF
      repeat refine evDone ?_
      try (show AW _ _ _ _ _)
      repeat refine AW.seq ?_
      refine AW.reg ?_
      have hF := And.intro (hlt) (he)
      repeat ((with_reducible show evIs _ (_ :: _) _ _); first | refine wQ ?_ | refine wF ?_ | refine wG ?_ | refine wT ?_ | refine wM ?_ | refine wS ?_ | refine wP ?_)
      clear hF
      repeat refine evDone ?_
      try (show AW _ _ _ _ _)
      have hF := hcl
      refine wC (hA := hcall) ?_
      clear hF
      have hF := True.intro
      repeat ((with_reducible show evIs _ (_ :: _) _ _); first | refine wQ ?_ | refine wF ?_ | refine wG ?_ | refine wT ?_ | refine wM ?_ | refine wS ?_ | refine wP ?_)
      clear hF
      repeat refine evDone ?_
      try (show AW _ _ _ _ _)
      refine AW.reg ?_
      have hw : IntKind.i64.wrap ((i : Int) + 1) = (i : Int) + 1 := i64_in _ ⟨by omega, by omega⟩
      have hF := hw
      repeat ((with_reducible show evIs _ (_ :: _) _ _); first | refine wQ ?_ | refine wF ?_ | refine wG ?_ | refine wT ?_ | refine wM ?_ | refine wS ?_ | refine wP ?_)
      clear hF
      repeat refine evDone ?_
      try (show AW _ _ _ _ _)
      refine ⟨(i + 1, acc ++ txtB a ++ E), ⟨by dsimp only; omega, hacc⟩, by dsimp only; omega, ?_⟩
      refine Fit.mk _ _ _ (by simp [hw, conv2, newEmp, convs_refl, convs, conv]) (by simp [hw, heapFit, newEmp, conv2s, conv2, convs_refl, convs, conv]) (by intro q hq; first | (simp at hq; done) | (simp at hq; omega) | (simp at hq; simp; omega))
    · have hlt2 : ¬ (i : Int) < is.length := by omega
      have hTe : T = acc := by
        rw [← hT, List.drop_eq_nil_of_le (by omega), encsV]
        simp
      have hF := And.intro (hlt) (hlt2)
      repeat ((with_reducible show evIs _ (_ :: _) _ _); first | refine wQ ?_ | refine wF ?_ | refine wG ?_ | refine wT ?_ | refine wM ?_ | refine wS ?_ | refine wP ?_)
      clear hF
      repeat refine evDone ?_
      try (show AW _ _ _ _ _)
      repeat refine AW.seq ?_
      refine AW.condF (by simp []) (by simp []) ?_
      refine AW.exit ?_
      show AW _ _ _ _ _
      repeat refine AW.seq ?_
      refine AW.reg ?_
      have hF := True.intro
      repeat ((with_reducible show evIs _ (_ :: _) _ _); first | refine wQ ?_ | refine wF ?_ | refine wG ?_ | refine wT ?_ | refine wM ?_ | refine wS ?_ | refine wP ?_)
      clear hF
      repeat refine evDone ?_
      try (show AW _ _ _ _ _)
      refine AW.ret (retI rfl ?_)
      simp [hTe, c63_res, resOk, resP, resV, ARes.op, R2s, R2, R1s, R1, closeOk, closeV]
  · have hT0 : T = bs ++ intB 6 ++ intB n := by rw [hT, encV, if_pos (by omega)]; simp
    have hl0 := congrArg List.length hT0
    simp only [List.length_append] at hl0
    have h93n := f93L (bs ++ intB 6) n (by simp; omega) hr1.2.1 hr1.2.2
    rw [← hT0] at h93n
    have h93 := f93L bs 6 (by omega) (by omega) (by omega)
    refine c63_of (by simp) ?_
    repeat refine AW.seq ?_
    refine AW.reg ?_
    have hF := True.intro
    repeat ((with_reducible show evIs _ (_ :: _) _ _); first | refine wQ ?_ | refine wF ?_ | refine wG ?_ | refine wT ?_ | refine wM ?_ | refine wS ?_ | refine wP ?_)
    clear hF
    repeat refine evDone ?_
    try (show AW _ _ _ _ _)
    repeat refine AW.seq ?_
    refine AW.reg ?_
    have hF := True.intro
    repeat ((with_reducible show evIs _ (_ :: _) _ _); first | refine wQ ?_ | refine wF ?_ | refine wG ?_ | refine wT ?_ | refine wM ?_ | refine wS ?_ | refine wP ?_)
    clear hF
    repeat refine evDone ?_
    try (show AW _ _ _ _ _)
    have hF := hcl
    refine wC (hA := h93) ?_
    clear hF
    have hF := True.intro
    repeat ((with_reducible show evIs _ (_ :: _) _ _); first | refine wQ ?_ | refine wF ?_ | refine wG ?_ | refine wT ?_ | refine wM ?_ | refine wS ?_ | refine wP ?_)
    clear hF
    repeat refine evDone ?_
    try (show AW _ _ _ _ _)
    repeat refine AW.seq ?_
    refine AW.reg ?_
    have hF := True.intro
    repeat ((with_reducible show evIs _ (_ :: _) _ _); first | refine wQ ?_ | refine wF ?_ | refine wG ?_ | refine wT ?_ | refine wM ?_ | refine wS ?_ | refine wP ?_)
    clear hF
    repeat refine evDone ?_
    try (show AW _ _ _ _ _)
    repeat refine AW.seq ?_
    refine AW.block ?_
    repeat refine AW.seq ?_
    refine AW.reg ?_
    have hF := True.intro
    repeat ((with_reducible show evIs _ (_ :: _) _ _); first | refine wQ ?_ | refine wF ?_ | refine wG ?_ | refine wT ?_ | refine wM ?_ | refine wS ?_ | refine wP ?_)
    clear hF
    repeat refine evDone ?_
    try (show AW _ _ _ _ _)
    repeat refine AW.seq ?_
    refine AW.condF (by simp []) (by simp []) ?_
    repeat refine AW.seq ?_
    refine AW.reg ?_
    have hF := True.intro
    repeat ((with_reducible show evIs _ (_ :: _) _ _); first | refine wQ ?_ | refine wF ?_ | refine wG ?_ | refine wT ?_ | refine wM ?_ | refine wS ?_ | refine wP ?_)
    clear hF
    repeat refine evDone ?_
    try (show AW _ _ _ _ _)
    repeat refine AW.seq ?_
    refine AW.condF (by simp []) (by simp []) ?_
    repeat refine AW.seq ?_
    refine AW.reg ?_
    have hF := True.intro
    repeat ((with_reducible show evIs _ (_ :: _) _ _); first | refine wQ ?_ | refine wF ?_ | refine wG ?_ | refine wT ?_ | refine wM ?_ | refine wS ?_ | refine wP ?_)
    clear hF
    repeat refine evDone ?_
    try (show AW _ _ _ _ _)
    repeat refine AW.seq ?_
    refine AW.condT (by simp []) (by simp []) ?_
    repeat refine AW.seq ?_
    refine AW.reg ?_
    have hF := True.intro
    repeat ((with_reducible show evIs _ (_ :: _) _ _); first | refine wQ ?_ | refine wF ?_ | refine wG ?_ | refine wT ?_ | refine wM ?_ | refine wS ?_ | refine wP ?_)
    clear hF
    repeat refine evDone ?_
    try (show AW _ _ _ _ _)
    have hF := hcl
    refine wC (hA := h93n) ?_
    clear hF
    have hF := True.intro
    repeat ((with_reducible show evIs _ (_ :: _) _ _); first | refine wQ ?_ | refine wF ?_ | refine wG ?_ | refine wT ?_ | refine wM ?_ | refine wS ?_ | refine wP ?_)
    clear hF
    repeat refine evDone ?_
    try (show AW _ _ _ _ _)
    repeat refine AW.seq ?_
    refine AW.reg ?_
    have hF := True.intro
    repeat ((with_reducible show evIs _ (_ :: _) _ _); first | refine wQ ?_ | refine wF ?_ | refine wG ?_ | refine wT ?_ | refine wM ?_ | refine wS ?_ | refine wP ?_)
    clear hF
    repeat refine evDone ?_
    try (show AW _ _ _ _ _)
    refine AW.ret (retI rfl ?_)
    simp [c63_res, resOk, resP, resV, ARes.op, R2s, R2, R1s, R1, closeOk, closeV]
theorem f63 (v : Val) (hok : v.okv) (hwv : wfV true v = true) (hr : rngV v) (bs : List Int) (hlen : bs.length + (encV v).length ≤ 70368744177664) : ACall Try.prog 63 [.sl .fro (byL bs), v.av] (· = .sl .fro (byL (bs ++ encV v))) := by
  have key : ∀ (m : Nat) (v : Val), v.sz ≤ m → v.okv → wfV true v = true → rngV v → ∀ bs : List Int, bs.length + (encV v).length ≤ 70368744177664 → ACall Try.prog 63 [.sl .fro (byL bs), v.av] (· = .sl .fro (byL (bs ++ encV v))) := by
    intro m
    induction m using Nat.strongRecOn with
    | _ m ih => exact fun v hm hok h hr bs hl => f63_step m (fun v' h => ih v'.sz h v' (Nat.le_refl _)) v hm hok h hr bs hl
  exact key _ v (Nat.le_refl _) hok hwv hr bs hlen
end Go.Proofs.Ytdnpnokplfemfaa

set_option linter.unusedSimpArgs false
set_option linter.unusedVariables false
set_option maxHeartbeats 8000000
namespace Go.Proofs.Ytdnpnokplfemfaa
open Go Go.Amb Go.IntWalk

theorem byL_u8 (ns : List Int) : ∀ v ∈ byL ns, isU8 v = true := by
  intro v hv
  obtain ⟨n, _, rfl⟩ := List.mem_map.1 hv
  rfl
theorem f18f (v : Val) (hok : v.okv) (hw : wfV true v = false) (bs : List Int) (hlen : bs.length ≤ 70368744177664) : ACall Try.prog 18 [.sl .fro (byL bs), v.av] (· = .sl (.own 1) (byL bs)) := by
  have h15 := f15 v hok
  rw [hw] at h15
  have hb1 : bs.length ≤ 140737488355328 := by omega
  have hb2 : bs.length ≤ 9223372036854775807 := by omega
  have htk : List.take bs.length (byL bs) = byL bs := List.take_of_length_le (by simp)
  have hu : ∀ x ∈ byL bs, (cellsOf x).length = 1 := by
    intro x hx
    obtain ⟨n, _, rfl⟩ := List.mem_map.1 hx
    rfl
  clear hw
  obtain ⟨k, n, t, is, ks⟩ := v
  simp only [Val.av] at h15 ⊢
  refine c18_of (by simp) ?_
  repeat refine AW.seq ?_
  refine AW.reg ?_
  have hF := True.intro
  repeat ((with_reducible show evIs _ (_ :: _) _ _); first | refine wQ ?_ | refine wF ?_ | refine wG ?_ | refine wT ?_ | refine wM ?_ | refine wS ?_ | refine wP ?_)
  clear hF
  repeat refine evDone ?_
  try (show AW _ _ _ _ _)
  repeat refine AW.seq ?_
  refine AW.reg ?_
  have hF := True.intro
  repeat ((with_reducible show evIs _ (_ :: _) _ _); first | refine wQ ?_ | refine wF ?_ | refine wG ?_ | refine wT ?_ | refine wM ?_ | refine wS ?_ | refine wP ?_)
  clear hF
  repeat refine evDone ?_
  try (show AW _ _ _ _ _)
  repeat refine AW.seq ?_
  refine AW.reg ?_
  have hF := And.intro (hb1) (And.intro (hb2) (eq_true hu))
  repeat ((with_reducible show evIs _ (_ :: _) _ _); first | refine wQ ?_ | refine wF ?_ | refine wG ?_ | refine wT ?_ | refine wM ?_ | refine wS ?_ | refine wP ?_)
  clear hF
  repeat refine evDone ?_
  try (show AW _ _ _ _ _)
  repeat refine AW.seq ?_
  refine AW.reg ?_
  have hF := True.intro
  repeat ((with_reducible show evIs _ (_ :: _) _ _); first | refine wQ ?_ | refine wF ?_ | refine wG ?_ | refine wT ?_ | refine wM ?_ | refine wS ?_ | refine wP ?_)
  clear hF
  repeat refine evDone ?_
  try (show AW _ _ _ _ _)
  have hF := True.intro
  refine wC (hA := h15) ?_
  clear hF
  have hF := True.intro
  repeat ((with_reducible show evIs _ (_ :: _) _ _); first | refine wQ ?_ | refine wF ?_ | refine wG ?_ | refine wT ?_ | refine wM ?_ | refine wS ?_ | refine wP ?_)
  clear hF
  repeat refine evDone ?_
  try (show AW _ _ _ _ _)
  repeat refine AW.seq ?_
  refine AW.condT (by simp []) (by simp []) ?_
  repeat refine AW.seq ?_
  refine AW.reg ?_
  have hF := True.intro
  repeat ((with_reducible show evIs _ (_ :: _) _ _); first | refine wQ ?_ | refine wF ?_ | refine wG ?_ | refine wT ?_ | refine wM ?_ | refine wS ?_ | refine wP ?_)
  clear hF
  repeat refine evDone ?_
  try (show AW _ _ _ _ _)
  refine AW.ret (retI rfl ?_)
  simp [htk, c18_res, resOk, resP, resV, ARes.op, R2s, R2, R1s, R1, closeOk, closeV]
theorem f18t (v : Val) (hok : v.okv) (hw : wfV true v = true) (hr : rngV v) (bs : List Int) (hlen : bs.length + (encV v).length ≤ 70368744177664) : ACall Try.prog 18 [.sl .fro (byL bs), v.av] (· = .sl .fro (byL (bs ++ encV v))) := by
  have h15 := f15 v hok
  rw [hw] at h15
  have h63 := f63 v hok hw hr bs hlen
  have hb1 : bs.length ≤ 140737488355328 := by omega
  have hb2 : bs.length ≤ 9223372036854775807 := by omega
  have htk : List.take bs.length (byL bs) = byL bs := List.take_of_length_le (by simp)
  have hcl := byL_cl
  have hu : ∀ x ∈ byL bs, (cellsOf x).length = 1 := by
    intro x hx
    obtain ⟨n, _, rfl⟩ := List.mem_map.1 hx
    rfl
  obtain ⟨T, hT⟩ : ∃ T, T = bs ++ encV v := ⟨_, rfl⟩
  rw [← hT] at h63 ⊢
  clear hw hlen hT
  obtain ⟨k, n, t, is, ks⟩ := v
  simp only [Val.av] at h15 h63 ⊢
  refine c18_of (by simp) ?_
  repeat refine AW.seq ?_
  refine AW.reg ?_
  have hF := True.intro
  repeat ((with_reducible show evIs _ (_ :: _) _ _); first | refine wQ ?_ | refine wF ?_ | refine wG ?_ | refine wT ?_ | refine wM ?_ | refine wS ?_ | refine wP ?_)
  clear hF
  repeat refine evDone ?_
  try (show AW _ _ _ _ _)
  repeat refine AW.seq ?_
  refine AW.reg ?_
  have hF := True.intro
  repeat ((with_reducible show evIs _ (_ :: _) _ _); first | refine wQ ?_ | refine wF ?_ | refine wG ?_ | refine wT ?_ | refine wM ?_ | refine wS ?_ | refine wP ?_)
  clear hF
  repeat refine evDone ?_
  try (show AW _ _ _ _ _)
  repeat refine AW.seq ?_
  refine AW.reg ?_
  have hF := And.intro (hb1) (And.intro (hb2) (eq_true hu))
  repeat ((with_reducible show evIs _ (_ :: _) _ _); first | refine wQ ?_ | refine wF ?_ | refine wG ?_ | refine wT ?_ | refine wM ?_ | refine wS ?_ | refine wP ?_)
  clear hF
  repeat refine evDone ?_
  try (show AW _ _ _ _ _)
  repeat refine AW.seq ?_
  refine AW.reg ?_
  have hF := True.intro
  repeat ((with_reducible show evIs _ (_ :: _) _ _); first | refine wQ ?_ | refine wF ?_ | refine wG ?_ | refine wT ?_ | refine wM ?_ | refine wS ?_ | refine wP ?_)
  clear hF
  repeat refine evDone ?_
  try (show AW _ _ _ _ _)
  have hF := True.intro
  refine wC (hA := h15) ?_
  clear hF
  have hF := True.intro
  repeat ((with_reducible show evIs _ (_ :: _) _ _); first | refine wQ ?_ | refine wF ?_ | refine wG ?_ | refine wT ?_ | refine wM ?_ | refine wS ?_ | refine wP ?_)
  clear hF
  repeat refine evDone ?_
  try (show AW _ _ _ _ _)
  repeat refine AW.seq ?_
  refine AW.condF (by simp []) (by simp []) ?_
  refine AW.skip ?_
  show AW _ _ _ _ _
  refine AW.fit (Fit.freeze (d := 5) (r := 5) (off := 0) (len := bs.length) (b := ⟨1, false, byL bs⟩) (by simp) (by simp) rfl (by simp)) ?_
  repeat refine AW.seq ?_
  refine AW.reg ?_
  have hF := htk
  repeat ((with_reducible show evIs _ (_ :: _) _ _); first | refine wQ ?_ | refine wF ?_ | refine wG ?_ | refine wT ?_ | refine wM ?_ | refine wS ?_ | refine wP ?_)
  clear hF
  repeat refine evDone ?_
  try (show AW _ _ _ _ _)
  have hF := And.intro (htk) (hcl)
  refine wC (hA := h63) ?_
  clear hF
  have hF := True.intro
  repeat ((with_reducible show evIs _ (_ :: _) _ _); first | refine wQ ?_ | refine wF ?_ | refine wG ?_ | refine wT ?_ | refine wM ?_ | refine wS ?_ | refine wP ?_)
  clear hF
  repeat refine evDone ?_
  try (show AW _ _ _ _ _)
  refine AW.ret (retI rfl ?_)
  simp [c18_res, resOk, resP, resV, ARes.op, R2s, R2, R1s, R1, closeOk, closeV]
theorem f5 (bs : List Int) (v : Val) (hok : v.okv) (hr : rngV v) (hE : (encV v).length ≤ 70368744177000) : ACall Try.prog 5 [.sl .fro (byL bs), v.av] (· = .bool true) := by
  have hw := works
  have h1 := f11 v hok 300 (by omega) (by omega)
  have hcl := byL_cl
  by_cases hb : 100 < bs.length
  · have hbi : (100 : Int) < bs.length := by omega
    clear h1 hE
    obtain ⟨k, n, t, is, ks⟩ := v
    simp only [Val.av]
    refine c5_of (by simp) ?_
    repeat refine AW.seq ?_
    refine AW.reg ?_
    have hF := True.intro
    repeat ((with_reducible show evIs _ (_ :: _) _ _); first | refine wQ ?_ | refine wF ?_ | refine wG ?_ | refine wT ?_ | refine wM ?_ | refine wS ?_ | refine wP ?_)
    clear hF
    repeat refine evDone ?_
    try (show AW _ _ _ _ _)
    repeat refine AW.seq ?_
    refine AW.reg ?_
    have hF := And.intro (hbi) (hb)
    repeat ((with_reducible show evIs _ (_ :: _) _ _); first | refine wQ ?_ | refine wF ?_ | refine wG ?_ | refine wT ?_ | refine wM ?_ | refine wS ?_ | refine wP ?_)
    clear hF
    repeat refine evDone ?_
    try (show AW _ _ _ _ _)
    repeat refine AW.seq ?_
    refine AW.condT (by simp [hbi, hb]) (by simp [hbi, hb]) ?_
    repeat refine AW.seq ?_
    refine AW.reg ?_
    have hF := True.intro
    repeat ((with_reducible show evIs _ (_ :: _) _ _); first | refine wQ ?_ | refine wF ?_ | refine wG ?_ | refine wT ?_ | refine wM ?_ | refine wS ?_ | refine wP ?_)
    clear hF
    repeat refine evDone ?_
    try (show AW _ _ _ _ _)
    have hF := True.intro
    refine wC (hA := hw) ?_
    clear hF
    have hF := True.intro
    repeat ((with_reducible show evIs _ (_ :: _) _ _); first | refine wQ ?_ | refine wF ?_ | refine wG ?_ | refine wT ?_ | refine wM ?_ | refine wS ?_ | refine wP ?_)
    clear hF
    repeat refine evDone ?_
    try (show AW _ _ _ _ _)
    refine AW.ret (retI rfl ?_)
    simp [c5_res, resOk, resP, resV, ARes.op, R2s, R2, R1s, R1, closeOk, closeV]
  · have hbi : ¬ (100 : Int) < bs.length := by omega
    have h17 := f17 v hok bs (by omega)
    cases hb1 : decide ((v.sz : Int) ≤ 300) with
    | false =>
      rw [hb1] at h1
      clear hb1 h17 hE
      obtain ⟨k, n, t, is, ks⟩ := v
      simp only [Val.av] at h1 ⊢
      refine c5_of (by simp) ?_
      repeat refine AW.seq ?_
      refine AW.reg ?_
      have hF := True.intro
      repeat ((with_reducible show evIs _ (_ :: _) _ _); first | refine wQ ?_ | refine wF ?_ | refine wG ?_ | refine wT ?_ | refine wM ?_ | refine wS ?_ | refine wP ?_)
      clear hF
      repeat refine evDone ?_
      try (show AW _ _ _ _ _)
      repeat refine AW.seq ?_
      refine AW.reg ?_
      have hF := And.intro (hbi) (hb)
      repeat ((with_reducible show evIs _ (_ :: _) _ _); first | refine wQ ?_ | refine wF ?_ | refine wG ?_ | refine wT ?_ | refine wM ?_ | refine wS ?_ | refine wP ?_)
      clear hF
      repeat refine evDone ?_
      try (show AW _ _ _ _ _)
      have hF := And.intro (hbi) (hb)
      refine wC (hA := h1) ?_
      clear hF
      have hF := And.intro (hbi) (hb)
      repeat ((with_reducible show evIs _ (_ :: _) _ _); first | refine wQ ?_ | refine wF ?_ | refine wG ?_ | refine wT ?_ | refine wM ?_ | refine wS ?_ | refine wP ?_)
      clear hF
      repeat refine evDone ?_
      try (show AW _ _ _ _ _)
      repeat refine AW.seq ?_
      refine AW.condT (by simp [hbi, hb]) (by simp [hbi, hb]) ?_
      repeat refine AW.seq ?_
      refine AW.reg ?_
      have hF := True.intro
      repeat ((with_reducible show evIs _ (_ :: _) _ _); first | refine wQ ?_ | refine wF ?_ | refine wG ?_ | refine wT ?_ | refine wM ?_ | refine wS ?_ | refine wP ?_)
      clear hF
      repeat refine evDone ?_
      try (show AW _ _ _ _ _)
      have hF := True.intro
      refine wC (hA := hw) ?_
      clear hF
      have hF := True.intro
      repeat ((with_reducible show evIs _ (_ :: _) _ _); first | refine wQ ?_ | refine wF ?_ | refine wG ?_ | refine wT ?_ | refine wM ?_ | refine wS ?_ | refine wP ?_)
      clear hF
      repeat refine evDone ?_
      try (show AW _ _ _ _ _)
      refine AW.ret (retI rfl ?_)
      simp [c5_res, resOk, resP, resV, ARes.op, R2s, R2, R1s, R1, closeOk, closeV]
    | true =>
      rw [hb1] at h1
      clear hb1
      cases hwf : wfV true v with
      | false =>
        have h18 := f18f v hok hwf bs (by omega)
        rw [hwf] at h17
        have he : bs ++ (if false = true then encV v else []) = bs := by simp
        rw [he] at h17
        have hu := byL_u8 bs
        clear hwf he hE
        obtain ⟨k, n, t, is, ks⟩ := v
        simp only [Val.av] at h1 h17 h18 ⊢
        refine c5_of (by simp) ?_
        repeat refine AW.seq ?_
        refine AW.reg ?_
        have hF := True.intro
        repeat ((with_reducible show evIs _ (_ :: _) _ _); first | refine wQ ?_ | refine wF ?_ | refine wG ?_ | refine wT ?_ | refine wM ?_ | refine wS ?_ | refine wP ?_)
        clear hF
        repeat refine evDone ?_
        try (show AW _ _ _ _ _)
        repeat refine AW.seq ?_
        refine AW.reg ?_
        have hF := And.intro (hbi) (hb)
        repeat ((with_reducible show evIs _ (_ :: _) _ _); first | refine wQ ?_ | refine wF ?_ | refine wG ?_ | refine wT ?_ | refine wM ?_ | refine wS ?_ | refine wP ?_)
        clear hF
        repeat refine evDone ?_
        try (show AW _ _ _ _ _)
        have hF := And.intro (hbi) (hb)
        refine wC (hA := h1) ?_
        clear hF
        have hF := And.intro (hbi) (hb)
        repeat ((with_reducible show evIs _ (_ :: _) _ _); first | refine wQ ?_ | refine wF ?_ | refine wG ?_ | refine wT ?_ | refine wM ?_ | refine wS ?_ | refine wP ?_)
        clear hF
        repeat refine evDone ?_
        try (show AW _ _ _ _ _)
        repeat refine AW.seq ?_
        refine AW.condF (by simp [hbi, hb]) (by simp [hbi, hb]) ?_
        refine AW.skip ?_
        show AW _ _ _ _ _
        repeat refine AW.seq ?_
        refine AW.draw ?_
        have hF := True.intro
        repeat (first | refine wD1 ?_ | refine wD2 ?_ | refine wE1 ?_ | refine wE2 ?_ | (refine wE3 ?_; intro _) | (refine wE4 ?_; intro _) | refine wN ?_ | ((with_reducible show evIs _ (_ :: _) _ _); first | refine wQ ?_ | refine wF ?_ | refine wG ?_ | refine wT ?_ | refine wM ?_ | refine wS ?_ | refine wP ?_ | refine wJ ?_ | refine wX ?_ | refine wY ?_ | refine wZ ?_))
        clear hF
        repeat refine evDone ?_
        try (show AW _ _ _ _ _)
        have hF := hcl
        refine wC (hA := h17) ?_
        clear hF
        have hF := eq_true hu
        repeat (first | refine wD1 ?_ | refine wD2 ?_ | refine wE1 ?_ | refine wE2 ?_ | (refine wE3 ?_; intro _) | (refine wE4 ?_; intro _) | refine wN ?_ | ((with_reducible show evIs _ (_ :: _) _ _); first | refine wQ ?_ | refine wF ?_ | refine wG ?_ | refine wT ?_ | refine wM ?_ | refine wS ?_ | refine wP ?_ | refine wJ ?_ | refine wX ?_ | refine wY ?_ | refine wZ ?_))
        clear hF
        repeat refine evDone ?_
        try (show AW _ _ _ _ _)
        have hF := hcl
        refine wC (hA := h18) ?_
        clear hF
        have hF := eq_true hu
        repeat (first | refine wD1 ?_ | refine wD2 ?_ | refine wE1 ?_ | refine wE2 ?_ | (refine wE3 ?_; intro _) | (refine wE4 ?_; intro _) | refine wN ?_ | ((with_reducible show evIs _ (_ :: _) _ _); first | refine wQ ?_ | refine wF ?_ | refine wG ?_ | refine wT ?_ | refine wM ?_ | refine wS ?_ | refine wP ?_ | refine wJ ?_ | refine wX ?_ | refine wY ?_ | refine wZ ?_))
        clear hF
        repeat refine evDone ?_
        try (show AW _ _ _ _ _)
        have hF := True.intro
        refine wC (hA := hw) ?_
        clear hF
        have hF := True.intro
        repeat (first | refine wD1 ?_ | refine wD2 ?_ | refine wE1 ?_ | refine wE2 ?_ | (refine wE3 ?_; intro _) | (refine wE4 ?_; intro _) | refine wN ?_ | ((with_reducible show evIs _ (_ :: _) _ _); first | refine wQ ?_ | refine wF ?_ | refine wG ?_ | refine wT ?_ | refine wM ?_ | refine wS ?_ | refine wP ?_ | refine wJ ?_ | refine wX ?_ | refine wY ?_ | refine wZ ?_))
        clear hF
        repeat refine evDone ?_
        try (show AW _ _ _ _ _)
        refine AW.ret (retI rfl ?_)
        simp [c5_res, resOk, resP, resV, ARes.op, R2s, R2, R1s, R1, closeOk, closeV]
      | true =>
        have h18 := f18t v hok hwf hr bs (by omega)
        rw [hwf] at h17
        have he : bs ++ (if true = true then encV v else []) = bs ++ encV v := by simp
        rw [he] at h17
        have hu := byL_u8 (bs ++ encV v)
        generalize bs ++ encV v = T at *
        clear hwf he hE
        obtain ⟨k, n, t, is, ks⟩ := v
        simp only [Val.av] at h1 h17 h18 ⊢
        refine c5_of (by simp) ?_
        repeat refine AW.seq ?_
        refine AW.reg ?_
        have hF := True.intro
        repeat ((with_reducible show evIs _ (_ :: _) _ _); first | refine wQ ?_ | refine wF ?_ | refine wG ?_ | refine wT ?_ | refine wM ?_ | refine wS ?_ | refine wP ?_)
        clear hF
        repeat refine evDone ?_
        try (show AW _ _ _ _ _)
        repeat refine AW.seq ?_
        refine AW.reg ?_
        have hF := And.intro (hbi) (hb)
        repeat ((with_reducible show evIs _ (_ :: _) _ _); first | refine wQ ?_ | refine wF ?_ | refine wG ?_ | refine wT ?_ | refine wM ?_ | refine wS ?_ | refine wP ?_)
        clear hF
        repeat refine evDone ?_
        try (show AW _ _ _ _ _)
        have hF := And.intro (hbi) (hb)
        refine wC (hA := h1) ?_
        clear hF
        have hF := And.intro (hbi) (hb)
        repeat ((with_reducible show evIs _ (_ :: _) _ _); first | refine wQ ?_ | refine wF ?_ | refine wG ?_ | refine wT ?_ | refine wM ?_ | refine wS ?_ | refine wP ?_)
        clear hF
        repeat refine evDone ?_
        try (show AW _ _ _ _ _)
        repeat refine AW.seq ?_
        refine AW.condF (by simp [hbi, hb]) (by simp [hbi, hb]) ?_
        refine AW.skip ?_
        show AW _ _ _ _ _
        repeat refine AW.seq ?_
        refine AW.draw ?_
        have hF := True.intro
        repeat (first | refine wD1 ?_ | refine wD2 ?_ | refine wE1 ?_ | refine wE2 ?_ | (refine wE3 ?_; intro _) | (refine wE4 ?_; intro _) | refine wN ?_ | ((with_reducible show evIs _ (_ :: _) _ _); first | refine wQ ?_ | refine wF ?_ | refine wG ?_ | refine wT ?_ | refine wM ?_ | refine wS ?_ | refine wP ?_ | refine wJ ?_ | refine wX ?_ | refine wY ?_ | refine wZ ?_))
        clear hF
        repeat refine evDone ?_
        try (show AW _ _ _ _ _)
        have hF := hcl
        refine wC (hA := h17) ?_
        clear hF
        have hF := eq_true hu
        repeat (first | refine wD1 ?_ | refine wD2 ?_ | refine wE1 ?_ | refine wE2 ?_ | (refine wE3 ?_; intro _) | (refine wE4 ?_; intro _) | refine wN ?_ | ((with_reducible show evIs _ (_ :: _) _ _); first | refine wQ ?_ | refine wF ?_ | refine wG ?_ | refine wT ?_ | refine wM ?_ | refine wS ?_ | refine wP ?_ | refine wJ ?_ | refine wX ?_ | refine wY ?_ | refine wZ ?_))
        clear hF
        repeat refine evDone ?_
        try (show AW _ _ _ _ _)
        have hF := hcl
        refine wC (hA := h18) ?_
        clear hF
        have hF := eq_true hu
        repeat (first | refine wD1 ?_ | refine wD2 ?_ | refine wE1 ?_ | refine wE2 ?_ | (refine wE3 ?_; intro _) | (refine wE4 ?_; intro _) | refine wN ?_ | ((with_reducible show evIs _ (_ :: _) _ _); first | refine wQ ?_ | refine wF ?_ | refine wG ?_ | refine wT ?_ | refine wM ?_ | refine wS ?_ | refine wP ?_ | refine wJ ?_ | refine wX ?_ | refine wY ?_ | refine wZ ?_))
        clear hF
        repeat refine evDone ?_
        try (show AW _ _ _ _ _)
        have hF := True.intro
        refine wC (hA := hw) ?_
        clear hF
        have hF := True.intro
        repeat (first | refine wD1 ?_ | refine wD2 ?_ | refine wE1 ?_ | refine wE2 ?_ | (refine wE3 ?_; intro _) | (refine wE4 ?_; intro _) | refine wN ?_ | ((with_reducible show evIs _ (_ :: _) _ _); first | refine wQ ?_ | refine wF ?_ | refine wG ?_ | refine wT ?_ | refine wM ?_ | refine wS ?_ | refine wP ?_ | refine wJ ?_ | refine wX ?_ | refine wY ?_ | refine wZ ?_))
        clear hF
        repeat refine evDone ?_
        try (show AW _ _ _ _ _)
        refine AW.ret (retI rfl ?_)
        simp [c5_res, resOk, resP, resV, ARes.op, R2s, R2, R1s, R1, closeOk, closeV]
end Go.Proofs.Ytdnpnokplfemfaa

set_option linter.unusedSimpArgs false
set_option linter.unusedVariables false
set_option maxHeartbeats 4000000
namespace Go.Proofs.Ytdnpnokplfemfaa
open Go Go.Amb Go.RowKit
mutual
def vB : Val → Nat
  | .mk _ _ t is ks => vsB is + (ks.map fun s => s.size + 1).sum + t.size + 1
def vsB : List Val → Nat
  | [] => 0
  | v :: vs => vB v + vsB vs
end
theorem vsB_sum : ∀ vs : List Val, vsB vs = (vs.map vB).sum
  | [] => rfl
  | v :: vs => by rw [vsB, vsB_sum vs]; rfl
theorem vB_pos (v : Val) : 1 ≤ vB v := by cases v; simp [vB]
theorem kB_len : ∀ ks : List ByteArray, ks.length ≤ (ks.map fun s => s.size + 1).sum
  | [] => by simp
  | s :: ks => by
    have := kB_len ks
    simp only [List.map_cons, List.sum_cons, List.length_cons]
    omega
theorem vsB_len : ∀ vs : List Val, vs.length ≤ vsB vs
  | [] => by simp
  | v :: vs => by
    have := vsB_len vs
    have := vB_pos v
    simp only [List.length_cons, vsB]
    omega
mutual
theorem okv_ofB : ∀ v : Val, vB v ≤ 1048576 → v.okv
  | .mk _ _ _ is ks, h => by
    simp only [vB] at h
    have := vsB_len is
    have := kB_len ks
    exact ⟨by omega, by omega, okvs_ofB is (by omega)⟩
theorem okvs_ofB : ∀ vs : List Val, vsB vs ≤ 1048576 → okvs vs
  | [], _ => trivial
  | v :: vs, h => by
    simp only [vsB] at h
    exact ⟨okv_ofB v (by omega), okvs_ofB vs (by omega)⟩
end
mutual
theorem encV_le : ∀ v : Val, (encV v).length + 11 ≤ 44 * vB v
  | .mk k n t is ks => by
    have h1 := intB_len k
    have h2 := intB_len n
    have h3 := intB_len is.length
    have h4 := txtB_len t
    have h5 := encsV_le (decide (k = 5)) is ks
    rw [encV, vB, List.length_append]
    split
    · omega
    · split
      · omega
      · split
        · rw [List.length_append]; omega
        · omega
theorem encsV_le (m : Bool) : ∀ (is : List Val) (ks : List ByteArray), (encsV m is ks).length ≤ 44 * vsB is + 11 * (ks.map fun s => s.size + 1).sum
  | [], ks => by simp [encsV]
  | x :: is, ks => by
    have h1 := encV_le x
    have h2 := encsV_le m is ks.tail
    rw [encsV, vsB, List.length_append, List.length_append]
    cases ks with
    | nil =>
      have h3 := txtB_len ⟨#[]⟩
      have h4 : (⟨#[]⟩ : ByteArray).size = 0 := rfl
      simp only [List.tail_nil, List.headD_nil] at h2 ⊢
      split
      · omega
      · simp only [List.length_nil]; omega
    | cons s ks =>
      have h3 := txtB_len s
      simp only [List.tail_cons, List.headD_cons, List.map_cons, List.sum_cons] at h2 ⊢
      split
      · omega
      · simp only [List.length_nil]; omega
end
theorem slOf_and {α : Type} {H : Type} {P : α → DataW H → Prop} {Q : α → Prop} {d : DataW H} {ys : List α} (h : SlOf (fun y d => P y d ∧ Q y) d ys) : SlOf P d ys ∧ ∀ y ∈ ys, Q y := by
  rcases h with ⟨h1, rfl⟩ | ⟨es, sp, h1, h2⟩
  · exact ⟨.inl ⟨h1, rfl⟩, by simp⟩
  · refine ⟨.inr ⟨es, sp, h1, ?_⟩, fun y hy => ?_⟩
    · clear h1
      induction ys generalizing es with
      | nil => cases es with
        | nil => trivial
        | cons e es => exact h2.elim
      | cons y ys ih => cases es with
        | nil => exact h2.elim
        | cons e es => exact ⟨h2.1.1, ih es h2.2⟩
    · obtain ⟨e, _, he⟩ := h2.mem y hy
      exact he.2
theorem rngs_of : ∀ {vs : List Val}, (∀ v ∈ vs, rngV v) → rngsV vs
  | [], _ => trivial
  | v :: vs, h => ⟨h v (by simp), rngs_of fun z hz => h z (by simp [hz])⟩
section
variable {H : Type} {enc : TypeId × Value → H} {w : World} {n : Nat} {cs : List Value} {x : DataW H × List MemPlace}
theorem bulkOf : BulkOf (H := H) Rows.uptoBulk Rows.uptoBulkAll where
  agg _ := by simp [Rows.uptoBulk]
  sl _ _ := by simp [Rows.uptoBulk]
  nil := by simp [Rows.uptoBulkAll]
  cons _ _ := by simp [Rows.uptoBulkAll]
  one d := by
    cases d with
    | lit l => cases l <;> simp [Rows.uptoBulk]
    | _ => simp [Rows.uptoBulk]
  str _ := by simp [Rows.uptoBulk]
theorem tell_valB : ∀ (n : Nat) (cs : List Value) (x : DataW H × List MemPlace), DataW.trod enc Try.prog w 0 (fun _ => true) true n 25 cs = some x →
    ∃ v : Val, Tell w (cellsOf v.av) cs ∧ (cellsOf v.av).length = Try.prog.cellsOf 25 ∧ (vB v ≤ Rows.uptoBulk x.1 ∧ rngV v) := by
  intro n
  induction n using Nat.strongRecOn with
  | _ n ih =>
    intro cs x h
    obtain ⟨css, ds, m, rfl, hx, rfl, he⟩ := tell_fields Try.underlying25 (by kernel_rfl) h
    obtain ⟨c0, css, d0, ds, rfl, rfl, ⟨p0, h0⟩, he⟩ := each_cons he
    obtain ⟨c1, css, d1, ds, rfl, rfl, ⟨p1, h1⟩, he⟩ := each_cons he
    obtain ⟨c2, css, d2, ds, rfl, rfl, ⟨p2, h2⟩, he⟩ := each_cons he
    obtain ⟨c3, css, d3, ds, rfl, rfl, ⟨p3, h3⟩, he⟩ := each_cons he
    obtain ⟨c4, css, d4, ds, rfl, rfl, ⟨p4, h4⟩, he⟩ := each_cons he
    obtain ⟨rfl, rfl⟩ := each_nil he
    obtain ⟨i0, t0, e0, f0⟩ := tell_int Try.underlying3 h0
    obtain ⟨i1, t1, e1, f1⟩ := tell_int Try.underlying3 h1
    obtain ⟨i2, t2, e2, _⟩ := tell_str Try.underlying9 h2
    obtain ⟨i3, t3, _, e3⟩ := tell_slice Try.underlying22 (by decide +kernel) Val.av (fun v d => vB v ≤ Rows.uptoBulk d ∧ rngV v) h3 (fun m' hm cs x hx => ih m' (by omega) cs x hx)
    obtain ⟨e3, r3⟩ := slOf_and e3
    have b3 := slOf_bulk bulkOf e3
    dsimp only at b3
    obtain ⟨i4, t4, _, e4⟩ := tell_slice Try.underlying23 (by decide +kernel) AV.str (fun v d => (fun s : ByteArray => s.size + 1) v ≤ Rows.uptoBulk d) h4 (fun m' hm cs x hx => by
        obtain ⟨s, a, e, _⟩ := tell_str Try.underlying9 hx
        exact ⟨s, a, by kernel_rfl, by rw [e]; simp [Rows.uptoBulk]⟩)
    have b4 := slOf_bulk bulkOf e4
    dsimp only at b4
    refine ⟨⟨i0, i1, i2, i3, i4⟩, ?_, by simp; kernel_rfl, ?_, ?_⟩
    · have := t0.app (t1.app (t2.app (t3.app t4)))
      simpa [Val.av, vals_map] using this
    · rw [hx, bulkOf.agg]
      have b2 : Rows.uptoBulk d2 = i2.size + 1 := by
        dsimp only at e2
        rw [e2]
        simp [Rows.uptoBulk]
      simp only [bulkOf.cons, bulkOf.nil, vB, vsB_sum]
      have := bulkOf.one d0
      have := bulkOf.one d1
      omega
    · simp [Lit.wf, IntKind.min, IntKind.max, IntKind.signed, IntKind.bits] at f0 f1
      exact ⟨⟨by omega, by omega⟩, ⟨by omega, by omega⟩, rngs_of r3⟩
theorem tell_vU {v : Value} {d : DataW H} {p : List MemPlace} (h : DataW.Trod enc Try.prog w 0 (fun _ => true) true 25 v d p) (hb : Rows.uptoBulk d ≤ 1048576) : ∃ (a b : Int) (c : ByteArray) (d : List Val) (e : List ByteArray), Tell w [.int .i64 a, .int .i64 b, .str c, .sl .fro (avs d), .sl .fro (e.map .str)] v.cells.toList ∧ (Val.mk a b c d e).okv ∧ rngV (Val.mk a b c d e) ∧ (encV (Val.mk a b c d e)).length ≤ 70368744177000 := by
  obtain ⟨n, h⟩ := h
  obtain ⟨⟨a, b, c, g, e⟩, t, _, ok, r⟩ := tell_valB _ _ _ h
  have hl := encV_le (.mk a b c g e)
  dsimp only at ok
  exact ⟨a, b, c, g, e, t, okv_ofB _ (by omega), r, by omega⟩
theorem tell_bytes {v : Value} {d : DataW H} {p : List MemPlace} (h : DataW.Trod enc Try.prog w 0 (fun _ => true) true 32 v d p) (hb : Rows.uptoBulk d ≤ 1048576) : ∃ bs : List Int, Tell w [.sl .fro (byL bs)] v.cells.toList ∧ True := by
  obtain ⟨n, h⟩ := h
  obtain ⟨bs, a, _, e⟩ := tell_slice Try.underlying32 (by decide +kernel) (fun n : Int => AV.int .u8 n) (fun _ _ => True) h (fun m _ cs x hx => by
    obtain ⟨i, t, _, _⟩ := tell_int Try.underlying5 hx
    exact ⟨i, t, by kernel_rfl, trivial⟩)
  exact ⟨bs, a, trivial⟩
end
end Go.Proofs.Ytdnpnokplfemfaa
