/- Contracts of chapter 2's functions, first part: values are copied and measured. -/
import Derived.Test.YtdnpnokplfemfaaB
import Derived.Test.YtdnpnokplfemfaaA4
import Derived.Test.YtdnpnokplfemfaaA3
import Derived.Test.YtdnpnokplfemfaaAL
import Derived.IntWalk

set_option linter.unusedSimpArgs false
set_option linter.unusedVariables false
set_option maxHeartbeats 4000000
namespace Go.Proofs.Ytdnpnokplfemfaa
open Go Go.Amb Go.IntWalk

theorem f65 (xs : List AV) (hu : ∀ x ∈ xs, (cellsOf x).length = 1) (hb : xs.length * 16 ≤ 140737488355328) (hl : xs.length ≤ 9223372036854775807) : ACall Try.prog 65 [.sl .fro xs] (· = .sl (.own 1) xs) := by
  refine a65_of (by simp) ?_
  repeat refine AW.seq ?_
  refine AW.reg ?_
  have hF := True.intro
  repeat ((with_reducible show evIs _ (_ :: _) _ _); first | refine wQ ?_ | refine wF ?_ | refine wG ?_ | refine wT ?_ | refine wM ?_ | refine wS ?_ | refine wP ?_)
  clear hF
  repeat refine evDone ?_
  try (show AW _ _ _ _ _)
  repeat refine AW.seq ?_
  refine AW.reg ?_
  have hF := True.intro
  repeat ((with_reducible show evIs _ (_ :: _) _ _); first | refine wQ ?_ | refine wF ?_ | refine wG ?_ | refine wT ?_ | refine wM ?_ | refine wS ?_ | refine wP ?_)
  clear hF
  repeat refine evDone ?_
  try (show AW _ _ _ _ _)
  refine evZ rfl rfl rfl (by conv => lhs; simp) (by simp) rfl ?_
  intro b hbz
  show AW _ _ _ _ _
  cases b
  · repeat refine AW.seq ?_
    refine AW.condF (by simp []) (by simp []) ?_
    refine AW.skip ?_
    show AW _ _ _ _ _
    repeat refine AW.seq ?_
    refine AW.reg ?_
    have hF := And.intro (hb) (And.intro (hl) (eq_true hu))
    repeat ((with_reducible show evIs _ (_ :: _) _ _); first | refine wQ ?_ | refine wF ?_ | refine wG ?_ | refine wT ?_ | refine wM ?_ | refine wS ?_ | refine wP ?_)
    clear hF
    repeat refine evDone ?_
    try (show AW _ _ _ _ _)
    refine AW.ret (retI rfl ?_)
    simp [a65_res, resOk, resP, resV, ARes.op, R2s, R2, R1s, R1, closeOk, closeV]
  · have hx : xs = [] := List.length_eq_zero_iff.1 (by simpa [lenOf] using hbz)
    subst hx
    repeat refine AW.seq ?_
    refine AW.condT (by simp []) (by simp []) ?_
    repeat refine AW.seq ?_
    refine AW.reg ?_
    have hF := True.intro
    repeat ((with_reducible show evIs _ (_ :: _) _ _); first | refine wQ ?_ | refine wF ?_ | refine wG ?_ | refine wT ?_ | refine wM ?_ | refine wS ?_ | refine wP ?_)
    clear hF
    repeat refine evDone ?_
    try (show AW _ _ _ _ _)
    refine AW.ret (retI rfl ?_)
    simp [a65_res, resOk, resP, resV, ARes.op, R2s, R2, R1s, R1, closeOk, closeV]
theorem strs_cl (ks : List ByteArray) : (ks.map AV.str).map clC = ks.map AV.str := by simp
theorem f20_of (k n : Int) (t : ByteArray) (is : List Val) (ks : List ByteArray) (hk : ks.length * 16 ≤ 140737488355328) (h : ACall Try.prog 64 [.sl .fro (avs is)] (· = .sl (.own 5) (avs is))) :
    ACall Try.prog 20 [.agg [.int .i64 k, .int .i64 n, .str t, .sl .fro (avs is), .sl .fro (ks.map .str)]] (· = .agg [.int .i64 k, .int .i64 n, .str t, .sl .fro (avs is), .sl .fro (ks.map .str)]) := by
  have hc := clC_avs is
  have hs := strs_cl ks
  have h54 := f65 (ks.map .str) (by simp) (by simpa using hk) (by simp; omega)
  refine a20_of (by simp) ?_
  repeat refine AW.seq ?_
  refine AW.reg ?_
  have hF := True.intro
  repeat ((with_reducible show evIs _ (_ :: _) _ _); first | refine wQ ?_ | refine wF ?_ | refine wG ?_ | refine wT ?_ | refine wM ?_ | refine wS ?_ | refine wP ?_)
  clear hF
  repeat refine evDone ?_
  try (show AW _ _ _ _ _)
  repeat refine AW.seq ?_
  refine AW.draw ?_
  have hF := True.intro
  repeat (first | refine wD1 ?_ | refine wD2 ?_ | refine wE1 ?_ | refine wE2 ?_ | (refine wE3 ?_; intro _) | (refine wE4 ?_; intro _) | refine wN ?_ | ((with_reducible show evIs _ (_ :: _) _ _); first | refine wQ ?_ | refine wF ?_ | refine wG ?_ | refine wT ?_ | refine wM ?_ | refine wS ?_ | refine wP ?_ | refine wJ ?_ | refine wX ?_ | refine wY ?_ | refine wZ ?_ | refine wU ?_ | refine wCp ?_ | refine wCp0 ?_ | refine wApz ?_ | (refine wCap ?_; intro qc hqc)))
  clear hF
  repeat refine evDone ?_
  try (show AW _ _ _ _ _)
  have hF := hc
  refine wC (hA := h) ?_
  clear hF
  have hF := True.intro
  repeat (first | refine wD1 ?_ | refine wD2 ?_ | refine wE1 ?_ | refine wE2 ?_ | (refine wE3 ?_; intro _) | (refine wE4 ?_; intro _) | refine wN ?_ | ((with_reducible show evIs _ (_ :: _) _ _); first | refine wQ ?_ | refine wF ?_ | refine wG ?_ | refine wT ?_ | refine wM ?_ | refine wS ?_ | refine wP ?_ | refine wJ ?_ | refine wX ?_ | refine wY ?_ | refine wZ ?_ | refine wU ?_ | refine wCp ?_ | refine wCp0 ?_ | refine wApz ?_ | (refine wCap ?_; intro qc hqc)))
  clear hF
  repeat refine evDone ?_
  try (show AW _ _ _ _ _)
  have hF := hs
  refine wC (hA := h54) ?_
  clear hF
  have hF := True.intro
  repeat (first | refine wD1 ?_ | refine wD2 ?_ | refine wE1 ?_ | refine wE2 ?_ | (refine wE3 ?_; intro _) | (refine wE4 ?_; intro _) | refine wN ?_ | ((with_reducible show evIs _ (_ :: _) _ _); first | refine wQ ?_ | refine wF ?_ | refine wG ?_ | refine wT ?_ | refine wM ?_ | refine wS ?_ | refine wP ?_ | refine wJ ?_ | refine wX ?_ | refine wY ?_ | refine wZ ?_ | refine wU ?_ | refine wCp ?_ | refine wCp0 ?_ | refine wApz ?_ | (refine wCap ?_; intro qc hqc)))
  clear hF
  repeat refine evDone ?_
  try (show AW _ _ _ _ _)
  repeat refine AW.seq ?_
  refine AW.reg ?_
  have hF := True.intro
  repeat ((with_reducible show evIs _ (_ :: _) _ _); first | refine wQ ?_ | refine wF ?_ | refine wG ?_ | refine wT ?_ | refine wM ?_ | refine wS ?_ | refine wP ?_)
  clear hF
  repeat refine evDone ?_
  try (show AW _ _ _ _ _)
  refine AW.ret (retI rfl ?_)
  simp [a20_res, resOk, resP, resV, ARes.op, R2s, R2, R1s, R1, closeOk, closeV]
theorem f64_step (m : Nat) (ih : ∀ vs, szs vs < m → okvs vs → vs.length * 80 ≤ 140737488355328 → ACall Try.prog 64 [.sl .fro (avs vs)] (· = .sl (.own 5) (avs vs)))
    (vs : List Val) (hm : szs vs ≤ m) (hok : okvs vs) (hb : vs.length * 80 ≤ 140737488355328) : ACall Try.prog 64 [.sl .fro (avs vs)] (· = .sl (.own 5) (avs vs)) := by
  refine a64_of (by simp) ?_
  repeat refine AW.seq ?_
  refine AW.reg ?_
  have hF := True.intro
  repeat ((with_reducible show evIs _ (_ :: _) _ _); first | refine wQ ?_ | refine wF ?_ | refine wG ?_ | refine wT ?_ | refine wM ?_ | refine wS ?_ | refine wP ?_)
  clear hF
  repeat refine evDone ?_
  try (show AW _ _ _ _ _)
  repeat refine AW.seq ?_
  refine AW.reg ?_
  have hF := True.intro
  repeat ((with_reducible show evIs _ (_ :: _) _ _); first | refine wQ ?_ | refine wF ?_ | refine wG ?_ | refine wT ?_ | refine wM ?_ | refine wS ?_ | refine wP ?_)
  clear hF
  repeat refine evDone ?_
  try (show AW _ _ _ _ _)
  repeat refine AW.seq ?_
  refine AW.reg ?_
  have hF := True.intro
  repeat ((with_reducible show evIs _ (_ :: _) _ _); first | refine wQ ?_ | refine wF ?_ | refine wG ?_ | refine wT ?_ | refine wM ?_ | refine wS ?_ | refine wP ?_)
  clear hF
  repeat refine evDone ?_
  try (show AW _ _ _ _ _)
  repeat refine AW.seq ?_
  refine AW.block ?_
  refine AW.loop (fun g : Nat × Nat × Nat => g.1 ≤ vs.length ∧ g.2.2 < g.2.1 ∧ 0 ≤ g.2.2 ∧ 0 ≤ g.2.1) (fun g => mkS [(3, .hdr g.2.2 0 g.1), (6, .sl .fro (avs vs)), (7, .int .i64 vs.length), (8, .int .i64 g.1)] [(g.2.2, ⟨5, false, pre Val.av vs g.1⟩)] g.2.1) (fun g => vs.length - g.1) (0, 20, 10) ⟨by simp, by simp, by simp, by simp⟩ ?_ ?_
  · refine Fit.mk _ _ _ (by simp [pre_zero, conv2, newEmp, convs_refl, convs, conv]) (by simp [pre_zero, heapFit, newEmp, conv2s, conv2, convs_refl, convs, conv]) (by intro q hq; first | (simp at hq; done) | (simp at hq; omega) | (simp at hq; simp; omega))
  · rintro ⟨i, n, r⟩ ⟨hi, hr, hbr, hbn⟩
    dsimp only at hi hr hbr hbn ⊢
    have hne : ∀ k, (r = n + k) = False := fun k => eq_false (by omega)
    have hne' : ∀ k, (n + k = r) = False := fun k => eq_false (by omega)
    have hnl : ∀ k, (n + k < n) = False := fun k => eq_false (by omega)
    have hrn : ∀ k, r < n + k := fun k => by omega

    repeat refine AW.seq ?_
    refine AW.reg ?_
    by_cases hlt : i < vs.length
    · have hF := hlt
      repeat ((with_reducible show evIs _ (_ :: _) _ _); first | refine wQ ?_ | refine wF ?_ | refine wG ?_ | refine wT ?_ | refine wM ?_ | refine wS ?_ | refine wP ?_)
      clear hF
      repeat refine evDone ?_
      try (show AW _ _ _ _ _)
      repeat refine AW.seq ?_
      refine AW.condT (by simp []) (by simp []) ?_
      refine AW.skip ?_
      show AW _ _ _ _ _
      refine AW.seq (AW.block ?_)
      have hx : ∃ x, vs[i]? = some x := ⟨_, List.getElem?_eq_getElem hlt⟩
      obtain ⟨x, hx⟩ := hx
      have he := elem_map (f := Val.av) hx
      rw [← vals_map] at he
      have hpl := pre_len (f := Val.av) hi
      have hpa := pre_add (f := Val.av) hx
      have hxm := List.mem_of_getElem? hx
      have hov := okvs_mem hok hxm
      have hsv := szs_mem hxm
      obtain ⟨k, q, t, is, ks⟩ := x
      simp only [Val.okv, Val.sz] at hov hsv
      have hc := f20_of k q t is ks hov.2.1 (ih is (by omega) hov.2.2 hov.1)
      simp only [Val.av] at he hpa
      have hby : (i + 1) * 80 ≤ 140737488355328 := by omega
      have hby2 : i + 1 ≤ 9223372036854775807 := by omega
      have hcl := clC_avs is
      have hcs := strs_cl ks
      repeat refine AW.seq ?_
      refine AW.reg ?_
      have hF := And.intro (hlt) (And.intro (he) (And.intro (hne) (And.intro (hne') (hnl))))
      repeat ((with_reducible show evIs _ (_ :: _) _ _); first | refine wQ ?_ | refine wF ?_ | refine wG ?_ | refine wT ?_ | refine wM ?_ | refine wS ?_ | refine wP ?_)
      clear hF
      repeat refine evDone ?_
      try (show AW _ _ _ _ _)
      repeat refine AW.seq ?_
      refine AW.reg ?_
      have hF := And.intro (hne) (And.intro (hne') (hnl))
      repeat ((with_reducible show evIs _ (_ :: _) _ _); first | refine wQ ?_ | refine wF ?_ | refine wG ?_ | refine wT ?_ | refine wM ?_ | refine wS ?_ | refine wP ?_)
      clear hF
      repeat refine evDone ?_
      try (show AW _ _ _ _ _)
      have hF := And.intro (hne) (And.intro (hne') (And.intro (hnl) (And.intro (hcl) (hcs))))
      refine wC (hA := hc) ?_
      clear hF
      have hF := And.intro (hne) (And.intro (hne') (And.intro (hnl) (And.intro (hpl) (And.intro (hby) (hby2)))))
      repeat ((with_reducible show evIs _ (_ :: _) _ _); first | refine wQ ?_ | refine wF ?_ | refine wG ?_ | refine wT ?_ | refine wM ?_ | refine wS ?_ | refine wP ?_)
      clear hF
      repeat refine evDone ?_
      try (show AW _ _ _ _ _)
      refine AW.reg ?_
      have hw : IntKind.i64.wrap ((i : Int) + 1) = (i : Int) + 1 := i64_in _ ⟨by omega, by omega⟩
      have hF := hw
      repeat ((with_reducible show evIs _ (_ :: _) _ _); first | refine wQ ?_ | refine wF ?_ | refine wG ?_ | refine wT ?_ | refine wM ?_ | refine wS ?_ | refine wP ?_)
      clear hF
      repeat refine evDone ?_
      try (show AW _ _ _ _ _)
      refine ⟨(i + 1, n + 60, n + 14), ⟨by dsimp only; omega, by dsimp only; omega, by dsimp only; omega, by dsimp only; omega⟩, by dsimp only; omega, ?_⟩
      refine Fit.mk _ _ _ (by simp [hw, hne, hne', hrn, hpl, hpa, conv2, newEmp, convs_refl, convs, conv]) (by simp [hw, hne, hne', hrn, hpl, hpa, heapFit, newEmp, conv2s, conv2, convs_refl, convs, conv]) (by intro q hq; first | (simp at hq; done) | (simp at hq; omega) | (simp at hq; simp; omega))
    · have hlt2 : ¬ (i : Int) < vs.length := by omega
      have hF := And.intro (hlt) (hlt2)
      repeat ((with_reducible show evIs _ (_ :: _) _ _); first | refine wQ ?_ | refine wF ?_ | refine wG ?_ | refine wT ?_ | refine wM ?_ | refine wS ?_ | refine wP ?_)
      clear hF
      repeat refine evDone ?_
      try (show AW _ _ _ _ _)
      repeat refine AW.seq ?_
      refine AW.condF (by simp []) (by simp []) ?_
      refine AW.exit ?_
      show AW _ _ _ _ _
      have hii : i = vs.length := by omega
      subst hii
      have ht : (avs vs).take vs.length = avs vs := List.take_of_length_le (by simp)
      have hpf : pre Val.av vs vs.length = avs vs := by rw [pre_full, vals_map]
      repeat refine AW.seq ?_
      refine AW.reg ?_
      have hF := And.intro (hne) (And.intro (hne') (hnl))
      repeat ((with_reducible show evIs _ (_ :: _) _ _); first | refine wQ ?_ | refine wF ?_ | refine wG ?_ | refine wT ?_ | refine wM ?_ | refine wS ?_ | refine wP ?_)
      clear hF
      repeat refine evDone ?_
      try (show AW _ _ _ _ _)
      refine AW.ret (retI rfl ?_)
      simp [hpf, ht, a64_res, resOk, resP, resV, ARes.op, R2s, R2, R1s, R1, closeOk, closeV]
theorem f64 (vs : List Val) (hok : okvs vs) (hb : vs.length * 80 ≤ 140737488355328) : ACall Try.prog 64 [.sl .fro (avs vs)] (· = .sl (.own 5) (avs vs)) := by
  have key : ∀ (m : Nat) (vs : List Val), szs vs ≤ m → okvs vs → vs.length * 80 ≤ 140737488355328 → ACall Try.prog 64 [.sl .fro (avs vs)] (· = .sl (.own 5) (avs vs)) := by
    intro m
    induction m using Nat.strongRecOn with
    | _ m ih => exact fun vs hm hok hb => f64_step m (fun vs' h => ih (szs vs') h vs' (Nat.le_refl _)) vs hm hok hb
  exact key _ vs (Nat.le_refl _) hok hb
theorem f20 (k n : Int) (t : ByteArray) (is : List Val) (ks : List ByteArray) (h : (Val.mk k n t is ks).okv) :
    ACall Try.prog 20 [.agg [.int .i64 k, .int .i64 n, .str t, .sl .fro (avs is), .sl .fro (ks.map .str)]] (· = .agg [.int .i64 k, .int .i64 n, .str t, .sl .fro (avs is), .sl .fro (ks.map .str)]) := by
  simp only [Val.okv] at h
  exact f20_of k n t is ks h.2.1 (f64 is h.2.2 h.1)

@[simp] theorem avs_take (vs : List Val) (i : Nat) : (avs vs).take i = avs (vs.take i) := by simp [vals_map]
theorem szs_append (a b : List Val) : szs (a ++ b) = szs a + szs b := by
  induction a with
  | nil => simp [szs]
  | cons v a ih => simp only [List.cons_append, szs, ih]; omega
theorem szs_step {is : List Val} {i : Nat} {x : Val} (hx : is[i]? = some x) : szs (is.take (i + 1)) = szs (is.take i) + x.sz := by
  obtain ⟨hi, rfl⟩ := List.getElem?_eq_some_iff.1 hx
  rw [List.take_add_one, List.getElem?_eq_getElem hi, szs_append]
  simp [szs]
theorem szs_take_le (is : List Val) (i : Nat) : szs (is.take i) ≤ szs is := by
  conv => rhs; rw [← List.take_append_drop i is, szs_append]
  omega
theorem sz_pos (v : Val) : 1 ≤ v.sz := by cases v; simp [Val.sz]
theorem szs_len : ∀ vs : List Val, vs.length ≤ szs vs
  | [] => by simp
  | v :: vs => by
    have := szs_len vs
    have := sz_pos v
    simp only [List.length_cons, szs]
    omega
/-- Nodes that remain. -/
def fewF (s : Nat) (n : Int) : Int := if (s : Int) ≤ n then n - s else -1
theorem fewF_eq (s : Nat) (n : Int) : ((s : Int) ≤ n ∧ fewF s n = n - s) ∨ (n < s ∧ fewF s n = -1) := by
  unfold fewF
  by_cases h : (s : Int) ≤ n
  · exact .inl ⟨h, if_pos h⟩
  · exact .inr ⟨by omega, if_neg h⟩
def pz (is : List Val) (i : Nat) : Nat := szs (is.take i) + 1
theorem pz_0 (is : List Val) : pz is 0 = 1 := by simp [pz, szs]
theorem few_step {is : List Val} {i : Nat} {x : Val} {n : Int} (hx : is[i]? = some x) (hc : 0 ≤ fewF (pz is i) n) : fewF x.sz (fewF (pz is i) n) = fewF (pz is (i + 1)) n := by
  have h1 := sz_pos x
  have h2 := szs_step hx
  have h3 := fewF_eq (pz is i) n
  have h4 := fewF_eq x.sz (fewF (pz is i) n)
  have h5 := fewF_eq (pz is (i + 1)) n
  have h6 : pz is (i + 1) = pz is i + x.sz := by simp only [pz, h2]; omega
  omega
theorem few_end {is : List Val} {i : Nat} {n : Int} (h0 : 0 ≤ n) (h : ¬ i < is.length ∨ ¬ 0 ≤ fewF (pz is i) n) : fewF (pz is i) n = fewF (szs is + 1) n := by
  by_cases hi : i < is.length
  · have h1 := h.resolve_left (by omega)
    have h2 := szs_take_le is i
    have h3 := fewF_eq (pz is i) n
    have h4 := fewF_eq (szs is + 1) n
    have h5 : pz is i = szs (is.take i) + 1 := rfl
    omega
  · rw [pz, List.take_of_length_le (by omega)]
theorem f56_step (m : Nat) (ih : ∀ v : Val, v.sz < m → v.okv → ∀ n : Int, 0 ≤ n → n ≤ 4611686018427387904 → ACall Try.prog 56 [v.av, .int .i64 n] (· = .int .i64 (fewF v.sz n)))
    (v : Val) (hm : v.sz ≤ m) (hok : v.okv) (n : Int) (h0 : 0 ≤ n) (h9 : n ≤ 4611686018427387904) : ACall Try.prog 56 [v.av, .int .i64 n] (· = .int .i64 (fewF v.sz n)) := by
  obtain ⟨k, q, t, is, ks⟩ := v
  simp only [Val.av, Val.sz, Val.okv] at hm hok ⊢
  obtain ⟨ho1, ho2, ho3⟩ := hok
  have hw : IntKind.i64.wrap (n - 1) = n - 1 := i64_in _ ⟨by omega, by omega⟩
  have hf1 : fewF (pz is 0) n = n - 1 := by rw [pz_0, fewF]; split <;> omega
  refine a56_of (by simp) ?_
  repeat refine AW.seq ?_
  refine AW.reg ?_
  have hF := True.intro
  repeat ((with_reducible show evIs _ (_ :: _) _ _); first | refine wQ ?_ | refine wF ?_ | refine wG ?_ | refine wT ?_ | refine wM ?_ | refine wS ?_ | refine wP ?_)
  clear hF
  repeat refine evDone ?_
  try (show AW _ _ _ _ _)
  repeat refine AW.seq ?_
  refine AW.reg ?_
  have hF := hw
  repeat ((with_reducible show evIs _ (_ :: _) _ _); first | refine wQ ?_ | refine wF ?_ | refine wG ?_ | refine wT ?_ | refine wM ?_ | refine wS ?_ | refine wP ?_)
  clear hF
  repeat refine evDone ?_
  try (show AW _ _ _ _ _)
  repeat refine AW.seq ?_
  refine AW.reg ?_
  have hF := True.intro
  repeat ((with_reducible show evIs _ (_ :: _) _ _); first | refine wQ ?_ | refine wF ?_ | refine wG ?_ | refine wT ?_ | refine wM ?_ | refine wS ?_ | refine wP ?_)
  clear hF
  repeat refine evDone ?_
  try (show AW _ _ _ _ _)
  repeat refine AW.seq ?_
  refine AW.block ?_
  refine AW.loop (fun i : Nat => i ≤ is.length) (fun i => mkS [(1, .int .i64 (fewF (pz is i) n)), (2, .ptr 0 0 0), (5, .int .i64 i)] [(0, ⟨5, true, [.agg [.int .i64 k, .int .i64 q, .str t, .sl .fro (avs is), .sl .fro (ks.map .str)]]⟩)] 60) (fun i => is.length - i) 0 (by simp) ?_ ?_
  · refine Fit.mk _ _ _ (by simp [hw, hf1, conv2, newEmp, convs_refl, convs, conv]) (by simp [hw, hf1, heapFit, newEmp, conv2s, conv2, convs_refl, convs, conv]) (by intro q hq; first | (simp at hq; done) | (simp at hq; omega) | (simp at hq; simp; omega))
  intro i hi
  have hfl : fewF (pz is i) n ≤ n ∧ -1 ≤ fewF (pz is i) n := by rw [fewF]; split <;> omega
  have hend := few_end (is := is) (i := i) h0
  repeat refine AW.seq ?_
  refine AW.reg ?_
  by_cases hlt : i < is.length
  · by_cases hc : 0 ≤ fewF (pz is i) n
    · have hF := And.intro (hlt) (hc)
      repeat ((with_reducible show evIs _ (_ :: _) _ _); first | refine wQ ?_ | refine wF ?_ | refine wG ?_ | refine wT ?_ | refine wM ?_ | refine wS ?_ | refine wP ?_)
      clear hF
      repeat refine evDone ?_
      try (show AW _ _ _ _ _)
      repeat refine AW.seq ?_
      refine AW.condT (by simp [hc]) (by simp [hc]) ?_
      refine AW.skip ?_
      show AW _ _ _ _ _
      refine AW.seq (AW.block ?_)
      obtain ⟨x, hx⟩ : ∃ x, is[i]? = some x := ⟨_, List.getElem?_eq_getElem hlt⟩
      have he := elem_map (f := Val.av) hx
      rw [← vals_map] at he
      have hxm := List.mem_of_getElem? hx
      have hcall := ih x (by have := szs_mem hxm; omega) (okvs_mem ho3 hxm) _ hc (by omega)
      rw [few_step hx hc] at hcall
      obtain ⟨xk, xn, xt, xi, xs⟩ := x
      simp only [Val.av] at he hcall
      repeat refine AW.seq ?_
      refine AW.reg ?_
      have hF := And.intro (hlt) (he)
      repeat ((with_reducible show evIs _ (_ :: _) _ _); first | refine wQ ?_ | refine wF ?_ | refine wG ?_ | refine wT ?_ | refine wM ?_ | refine wS ?_ | refine wP ?_)
      clear hF
      repeat refine evDone ?_
      try (show AW _ _ _ _ _)
      have hF := True.intro
      refine wC (hA := hcall) ?_
      clear hF
      have hF := True.intro
      repeat ((with_reducible show evIs _ (_ :: _) _ _); first | refine wQ ?_ | refine wF ?_ | refine wG ?_ | refine wT ?_ | refine wM ?_ | refine wS ?_ | refine wP ?_)
      clear hF
      repeat refine evDone ?_
      try (show AW _ _ _ _ _)
      refine AW.reg ?_
      have hw : IntKind.i64.wrap ((i : Int) + 1) = (i : Int) + 1 := i64_in _ ⟨by omega, by omega⟩
      have hF := hw
      repeat ((with_reducible show evIs _ (_ :: _) _ _); first | refine wQ ?_ | refine wF ?_ | refine wG ?_ | refine wT ?_ | refine wM ?_ | refine wS ?_ | refine wP ?_)
      clear hF
      repeat refine evDone ?_
      try (show AW _ _ _ _ _)
      refine ⟨i + 1, by omega, by omega, ?_⟩
      refine Fit.mk _ _ _ (by simp [hw, conv2, newEmp, convs_refl, convs, conv]) (by simp [hw, heapFit, newEmp, conv2s, conv2, convs_refl, convs, conv]) (by intro q hq; first | (simp at hq; done) | (simp at hq; omega) | (simp at hq; simp; omega))
    · have hend := hend (.inr hc)
      have hF := And.intro (hlt) (hc)
      repeat ((with_reducible show evIs _ (_ :: _) _ _); first | refine wQ ?_ | refine wF ?_ | refine wG ?_ | refine wT ?_ | refine wM ?_ | refine wS ?_ | refine wP ?_)
      clear hF
      repeat refine evDone ?_
      try (show AW _ _ _ _ _)
      repeat refine AW.seq ?_
      refine AW.condF (by simp [hc]) (by simp [hc]) ?_
      refine AW.exit ?_
      show AW _ _ _ _ _
      repeat refine AW.seq ?_
      refine AW.reg ?_
      have hF := True.intro
      repeat ((with_reducible show evIs _ (_ :: _) _ _); first | refine wQ ?_ | refine wF ?_ | refine wG ?_ | refine wT ?_ | refine wM ?_ | refine wS ?_ | refine wP ?_)
      clear hF
      repeat refine evDone ?_
      try (show AW _ _ _ _ _)
      refine AW.ret (retI rfl ?_)
      simp [hend, a56_res, resOk, resP, resV, ARes.op, R2s, R2, R1s, R1, closeOk, closeV]
  · have hend := hend (.inl hlt)
    have hlt2 : ¬ (i : Int) < is.length := by omega
    have hF := And.intro (hlt) (hlt2)
    repeat ((with_reducible show evIs _ (_ :: _) _ _); first | refine wQ ?_ | refine wF ?_ | refine wG ?_ | refine wT ?_ | refine wM ?_ | refine wS ?_ | refine wP ?_)
    clear hF
    repeat refine evDone ?_
    try (show AW _ _ _ _ _)
    repeat refine AW.seq ?_
    refine AW.condF (by simp [hlt2]) (by simp [hlt2]) ?_
    refine AW.exit ?_
    show AW _ _ _ _ _
    repeat refine AW.seq ?_
    refine AW.reg ?_
    have hF := True.intro
    repeat ((with_reducible show evIs _ (_ :: _) _ _); first | refine wQ ?_ | refine wF ?_ | refine wG ?_ | refine wT ?_ | refine wM ?_ | refine wS ?_ | refine wP ?_)
    clear hF
    repeat refine evDone ?_
    try (show AW _ _ _ _ _)
    refine AW.ret (retI rfl ?_)
    simp [hend, a56_res, resOk, resP, resV, ARes.op, R2s, R2, R1s, R1, closeOk, closeV]
theorem f56 (v : Val) (hok : v.okv) (n : Int) (h0 : 0 ≤ n) (h9 : n ≤ 4611686018427387904) : ACall Try.prog 56 [v.av, .int .i64 n] (· = .int .i64 (fewF v.sz n)) := by
  have key : ∀ (m : Nat) (v : Val), v.sz ≤ m → v.okv → ∀ n : Int, 0 ≤ n → n ≤ 4611686018427387904 → ACall Try.prog 56 [v.av, .int .i64 n] (· = .int .i64 (fewF v.sz n)) := by
    intro m
    induction m using Nat.strongRecOn with
    | _ m ih => exact fun v hm hok n h0 h9 => f56_step m (fun v' h => ih v'.sz h v' (Nat.le_refl _)) v hm hok n h0 h9
  exact key _ v (Nat.le_refl _) hok n h0 h9
theorem f11 (v : Val) (hok : v.okv) (n : Int) (h0 : 0 ≤ n) (h9 : n ≤ 4611686018427387904) : ACall Try.prog 11 [v.av, .int .i64 n] (· = .bool (decide ((v.sz : Int) ≤ n))) := by
  have h56 := f56 v hok n h0 h9
  have hd : decide (0 ≤ fewF v.sz n) = decide ((v.sz : Int) ≤ n) := by rw [fewF]; congr 1; apply propext; split <;> omega
  obtain ⟨k, q, t, is, ks⟩ := v
  simp only [Val.av] at h56 ⊢
  refine a11_of (by simp) ?_
  repeat refine AW.seq ?_
  refine AW.reg ?_
  have hF := True.intro
  repeat ((with_reducible show evIs _ (_ :: _) _ _); first | refine wQ ?_ | refine wF ?_ | refine wG ?_ | refine wT ?_ | refine wM ?_ | refine wS ?_ | refine wP ?_)
  clear hF
  repeat refine evDone ?_
  try (show AW _ _ _ _ _)
  repeat refine AW.seq ?_
  refine AW.reg ?_
  have hF := True.intro
  repeat ((with_reducible show evIs _ (_ :: _) _ _); first | refine wQ ?_ | refine wF ?_ | refine wG ?_ | refine wT ?_ | refine wM ?_ | refine wS ?_ | refine wP ?_)
  clear hF
  repeat refine evDone ?_
  try (show AW _ _ _ _ _)
  have hF := True.intro
  refine wC (hA := h56) ?_
  clear hF
  have hF := True.intro
  repeat ((with_reducible show evIs _ (_ :: _) _ _); first | refine wQ ?_ | refine wF ?_ | refine wG ?_ | refine wT ?_ | refine wM ?_ | refine wS ?_ | refine wP ?_)
  clear hF
  repeat refine evDone ?_
  try (show AW _ _ _ _ _)
  refine AW.ret (retI rfl ?_)
  simp [hd, a11_res, resOk, resP, resV, ARes.op, R2s, R2, R1s, R1, closeOk, closeV]
end Go.Proofs.Ytdnpnokplfemfaa

set_option linter.unusedSimpArgs false
set_option linter.unusedVariables false
set_option maxHeartbeats 4000000
namespace Go.Proofs.Ytdnpnokplfemfaa
open Go Go.Amb Go.IntWalk

mutual
def _root_.Go.Amb.Val.dep : Val → Nat
  | .mk _ _ _ is _ => deps is + 1
def deps : List Val → Nat
  | [] => 0
  | v :: vs => max v.dep (deps vs)
end
theorem deps_append (a b : List Val) : deps (a ++ b) = max (deps a) (deps b) := by
  induction a with
  | nil => simp [deps]
  | cons v a ih => simp only [List.cons_append, deps, ih]; omega
theorem deps_step {is : List Val} {i : Nat} {x : Val} (hx : is[i]? = some x) : deps (is.take (i + 1)) = max (deps (is.take i)) x.dep := by
  obtain ⟨hi, rfl⟩ := List.getElem?_eq_some_iff.1 hx
  rw [List.take_add_one, List.getElem?_eq_getElem hi, deps_append]
  simp [deps]
theorem deps_take_le (is : List Val) (i : Nat) : deps (is.take i) ≤ deps is := by
  conv => rhs; rw [← List.take_append_drop i is, deps_append]
  omega
mutual
theorem dep_le_sz : ∀ v : Val, v.dep ≤ v.sz
  | .mk _ _ _ is _ => by
    have := deps_le is
    simp only [Val.dep, Val.sz]
    omega
theorem deps_le : ∀ vs : List Val, deps vs ≤ szs vs
  | [] => by simp [deps]
  | v :: vs => by
    have h1 := dep_le_sz v
    have h2 := deps_le vs
    simp only [deps, szs]
    omega
end
theorem f25_step (m : Nat) (ih : ∀ v : Val, v.sz < m → v.okv → v.sz ≤ 1000000 → ACall Try.prog 25 [v.av] (· = .int .i64 v.dep))
    (v : Val) (hm : v.sz ≤ m) (hok : v.okv) (hs : v.sz ≤ 1000000) : ACall Try.prog 25 [v.av] (· = .int .i64 v.dep) := by
  obtain ⟨k, q, t, is, ks⟩ := v
  simp only [Val.av, Val.sz, Val.okv, Val.dep] at hm hok hs ⊢
  obtain ⟨ho1, ho2, ho3⟩ := hok
  refine a25_of (by simp) ?_
  repeat refine AW.seq ?_
  refine AW.reg ?_
  have hF := True.intro
  repeat ((with_reducible show evIs _ (_ :: _) _ _); first | refine wQ ?_ | refine wF ?_ | refine wG ?_ | refine wT ?_ | refine wM ?_ | refine wS ?_ | refine wP ?_)
  clear hF
  repeat refine evDone ?_
  try (show AW _ _ _ _ _)
  repeat refine AW.seq ?_
  refine AW.reg ?_
  have hF := True.intro
  repeat ((with_reducible show evIs _ (_ :: _) _ _); first | refine wQ ?_ | refine wF ?_ | refine wG ?_ | refine wT ?_ | refine wM ?_ | refine wS ?_ | refine wP ?_)
  clear hF
  repeat refine evDone ?_
  try (show AW _ _ _ _ _)
  repeat refine AW.seq ?_
  refine AW.reg ?_
  have hF := True.intro
  repeat ((with_reducible show evIs _ (_ :: _) _ _); first | refine wQ ?_ | refine wF ?_ | refine wG ?_ | refine wT ?_ | refine wM ?_ | refine wS ?_ | refine wP ?_)
  clear hF
  repeat refine evDone ?_
  try (show AW _ _ _ _ _)
  repeat refine AW.seq ?_
  refine AW.block ?_
  refine AW.loop (fun g : Nat × Nat => g.1 ≤ is.length ∧ 60 ≤ g.2) (fun g => mkS [(1, .ptr 0 0 0), (3, .int .i64 (deps (is.take g.1))), (7, .sl .fro (avs is)), (8, .int .i64 is.length), (9, .int .i64 g.1)] [(0, ⟨5, true, [.agg [.int .i64 k, .int .i64 q, .str t, .sl .fro (avs is), .sl .fro (ks.map .str)]]⟩)] g.2) (fun g => is.length - g.1) (0, 60) ⟨by simp, by simp⟩ ?_ ?_
  · refine Fit.mk _ _ _ (by simp [deps, conv2, newEmp, convs_refl, convs, conv]) (by simp [deps, heapFit, newEmp, conv2s, conv2, convs_refl, convs, conv]) (by intro q hq; first | (simp at hq; done) | (simp at hq; omega) | (simp at hq; simp; omega))
  · rintro ⟨i, n⟩ ⟨hi, hn⟩
    dsimp only at hi hn ⊢
    have hnl : ∀ k, (n + k < n) = False := fun k => eq_false (by omega)

    repeat refine AW.seq ?_
    refine AW.reg ?_
    by_cases hlt : i < is.length
    · have hF := hlt
      repeat ((with_reducible show evIs _ (_ :: _) _ _); first | refine wQ ?_ | refine wF ?_ | refine wG ?_ | refine wT ?_ | refine wM ?_ | refine wS ?_ | refine wP ?_)
      clear hF
      repeat refine evDone ?_
      try (show AW _ _ _ _ _)
      repeat refine AW.seq ?_
      refine AW.condT (by simp []) (by simp []) ?_
      refine AW.skip ?_
      show AW _ _ _ _ _
      refine AW.seq (AW.block ?_)
      obtain ⟨x, hx⟩ : ∃ x, is[i]? = some x := ⟨_, List.getElem?_eq_getElem hlt⟩
      have he := elem_map (f := Val.av) hx
      rw [← vals_map] at he
      have hxm := List.mem_of_getElem? hx
      have hcall := ih x (by have := szs_mem hxm; omega) (okvs_mem ho3 hxm) (by have := szs_mem hxm; omega)
      have hst := deps_step hx
      have hle := deps_take_le is i
      have hds := dep_le_sz x
      have hsm := szs_mem hxm
      obtain ⟨d, hd⟩ : ∃ d, d = x.dep := ⟨_, rfl⟩
      rw [← hd] at hcall hst hds
      obtain ⟨D, hD⟩ : ∃ D, D = deps (is.take i) := ⟨_, rfl⟩
      rw [← hD] at hst
      have hmx : (if D < d then (d : Int) else (D : Int)) = ((deps (is.take (i + 1)) : Nat) : Int) := by rw [hst]; split <;> omega
      rw [← hD]
      obtain ⟨xk, xn, xt, xi, xs⟩ := x
      simp only [Val.av] at he hcall

      repeat refine AW.seq ?_
      refine AW.reg ?_
      have hF := And.intro (hlt) (And.intro (he) (hnl))
      repeat ((with_reducible show evIs _ (_ :: _) _ _); first | refine wQ ?_ | refine wF ?_ | refine wG ?_ | refine wT ?_ | refine wM ?_ | refine wS ?_ | refine wP ?_)
      clear hF
      repeat refine evDone ?_
      try (show AW _ _ _ _ _)
      repeat refine AW.seq ?_
      refine AW.reg ?_
      have hF := hnl
      repeat ((with_reducible show evIs _ (_ :: _) _ _); first | refine wQ ?_ | refine wF ?_ | refine wG ?_ | refine wT ?_ | refine wM ?_ | refine wS ?_ | refine wP ?_)
      clear hF
      repeat refine evDone ?_
      try (show AW _ _ _ _ _)
      have hF := hnl
      refine wC (hA := hcall) ?_
      clear hF
      have hF := And.intro (hnl) (hmx)
      repeat ((with_reducible show evIs _ (_ :: _) _ _); first | refine wQ ?_ | refine wF ?_ | refine wG ?_ | refine wT ?_ | refine wM ?_ | refine wS ?_ | refine wP ?_)
      clear hF
      repeat refine evDone ?_
      try (show AW _ _ _ _ _)
      refine AW.reg ?_
      have hw : IntKind.i64.wrap ((i : Int) + 1) = (i : Int) + 1 := i64_in _ ⟨by omega, by omega⟩
      have hF := hw
      repeat ((with_reducible show evIs _ (_ :: _) _ _); first | refine wQ ?_ | refine wF ?_ | refine wG ?_ | refine wT ?_ | refine wM ?_ | refine wS ?_ | refine wP ?_)
      clear hF
      repeat refine evDone ?_
      try (show AW _ _ _ _ _)
      refine ⟨(i + 1, n + 60), ⟨by dsimp only; omega, by dsimp only; omega⟩, by dsimp only; omega, ?_⟩
      refine Fit.mk _ _ _ (by simp [hw, hmx, conv2, newEmp, convs_refl, convs, conv]) (by simp [hw, hmx, heapFit, newEmp, conv2s, conv2, convs_refl, convs, conv]) (by intro q hq; first | (simp at hq; done) | (simp at hq; omega) | (simp at hq; simp; omega))
    · have hlt2 : ¬ (i : Int) < is.length := by omega
      have hF := And.intro (hlt) (hlt2)
      repeat ((with_reducible show evIs _ (_ :: _) _ _); first | refine wQ ?_ | refine wF ?_ | refine wG ?_ | refine wT ?_ | refine wM ?_ | refine wS ?_ | refine wP ?_)
      clear hF
      repeat refine evDone ?_
      try (show AW _ _ _ _ _)
      repeat refine AW.seq ?_
      refine AW.condF (by simp []) (by simp []) ?_
      refine AW.exit ?_
      show AW _ _ _ _ _
      have hii : i = is.length := by omega
      subst hii
      have htk : deps (is.take is.length) = deps is := by rw [List.take_length]
      have hdl := deps_le is
      have hw : IntKind.i64.wrap ((deps is : Int) + 1) = (deps is : Int) + 1 := i64_in _ ⟨by omega, by omega⟩
      repeat refine AW.seq ?_
      refine AW.reg ?_
      have hF := And.intro (hw) (htk)
      repeat ((with_reducible show evIs _ (_ :: _) _ _); first | refine wQ ?_ | refine wF ?_ | refine wG ?_ | refine wT ?_ | refine wM ?_ | refine wS ?_ | refine wP ?_)
      clear hF
      repeat refine evDone ?_
      try (show AW _ _ _ _ _)
      refine AW.ret (retI rfl ?_)
      simp [hw, htk, a25_res, resOk, resP, resV, ARes.op, R2s, R2, R1s, R1, closeOk, closeV]
theorem f25 (v : Val) (hok : v.okv) (hs : v.sz ≤ 1000000) : ACall Try.prog 25 [v.av] (· = .int .i64 v.dep) := by
  have key : ∀ (m : Nat) (v : Val), v.sz ≤ m → v.okv → v.sz ≤ 1000000 → ACall Try.prog 25 [v.av] (· = .int .i64 v.dep) := by
    intro m
    induction m using Nat.strongRecOn with
    | _ m ih => exact fun v hm hok hs => f25_step m (fun v' h => ih v'.sz h v' (Nat.le_refl _)) v hm hok hs
  exact key _ v (Nat.le_refl _) hok hs
theorem f26_step (m : Nat) (ih : ∀ v : Val, v.sz < m → v.okv → v.sz ≤ 1000000 → ACall Try.prog 26 [v.av] (· = .int .i64 v.dep))
    (v : Val) (hm : v.sz ≤ m) (hok : v.okv) (hs : v.sz ≤ 1000000) : ACall Try.prog 26 [v.av] (· = .int .i64 v.dep) := by
  obtain ⟨k, q, t, is, ks⟩ := v
  simp only [Val.av, Val.sz, Val.okv, Val.dep] at hm hok hs ⊢
  obtain ⟨ho1, ho2, ho3⟩ := hok
  refine a26_of (by simp) ?_
  repeat refine AW.seq ?_
  refine AW.reg ?_
  have hF := True.intro
  repeat ((with_reducible show evIs _ (_ :: _) _ _); first | refine wQ ?_ | refine wF ?_ | refine wG ?_ | refine wT ?_ | refine wM ?_ | refine wS ?_ | refine wP ?_)
  clear hF
  repeat refine evDone ?_
  try (show AW _ _ _ _ _)
  repeat refine AW.seq ?_
  refine AW.reg ?_
  have hF := True.intro
  repeat ((with_reducible show evIs _ (_ :: _) _ _); first | refine wQ ?_ | refine wF ?_ | refine wG ?_ | refine wT ?_ | refine wM ?_ | refine wS ?_ | refine wP ?_)
  clear hF
  repeat refine evDone ?_
  try (show AW _ _ _ _ _)
  repeat refine AW.seq ?_
  refine AW.reg ?_
  have hF := True.intro
  repeat ((with_reducible show evIs _ (_ :: _) _ _); first | refine wQ ?_ | refine wF ?_ | refine wG ?_ | refine wT ?_ | refine wM ?_ | refine wS ?_ | refine wP ?_)
  clear hF
  repeat refine evDone ?_
  try (show AW _ _ _ _ _)
  repeat refine AW.seq ?_
  refine AW.block ?_
  refine AW.loop (fun i : Nat => i ≤ is.length) (fun i => mkS [(1, .ptr 0 0 0), (3, .int .i64 (deps (is.take i))), (4, .int .i64 i)] [(0, ⟨5, true, [.agg [.int .i64 k, .int .i64 q, .str t, .sl .fro (avs is), .sl .fro (ks.map .str)]]⟩)] 60) (fun i => is.length - i) 0 (by simp) ?_ ?_
  · refine Fit.mk _ _ _ (by simp [deps, conv2, newEmp, convs_refl, convs, conv]) (by simp [deps, heapFit, newEmp, conv2s, conv2, convs_refl, convs, conv]) (by intro q hq; first | (simp at hq; done) | (simp at hq; omega) | (simp at hq; simp; omega))
  · intro i hi

    repeat refine AW.seq ?_
    refine AW.reg ?_
    by_cases hlt : i < is.length
    · have hF := hlt
      repeat ((with_reducible show evIs _ (_ :: _) _ _); first | refine wQ ?_ | refine wF ?_ | refine wG ?_ | refine wT ?_ | refine wM ?_ | refine wS ?_ | refine wP ?_)
      clear hF
      repeat refine evDone ?_
      try (show AW _ _ _ _ _)
      repeat refine AW.seq ?_
      refine AW.condT (by simp []) (by simp []) ?_
      refine AW.skip ?_
      show AW _ _ _ _ _
      refine AW.seq (AW.block ?_)
      obtain ⟨x, hx⟩ : ∃ x, is[i]? = some x := ⟨_, List.getElem?_eq_getElem hlt⟩
      have he := elem_map (f := Val.av) hx
      rw [← vals_map] at he
      have hxm := List.mem_of_getElem? hx
      have hcall := ih x (by have := szs_mem hxm; omega) (okvs_mem ho3 hxm) (by have := szs_mem hxm; omega)
      have hst := deps_step hx
      have hle := deps_take_le is i
      have hds := dep_le_sz x
      have hsm := szs_mem hxm
      obtain ⟨d, hd⟩ : ∃ d, d = x.dep := ⟨_, rfl⟩
      rw [← hd] at hcall hst hds
      obtain ⟨D, hD⟩ : ∃ D, D = deps (is.take i) := ⟨_, rfl⟩
      rw [← hD] at hst
      have hmx : (if D < d then (d : Int) else (D : Int)) = ((deps (is.take (i + 1)) : Nat) : Int) := by rw [hst]; split <;> omega
      rw [← hD]
      obtain ⟨xk, xn, xt, xi, xs⟩ := x
      simp only [Val.av] at he hcall

      repeat refine AW.seq ?_
      refine AW.reg ?_
      have hF := And.intro (hlt) (he)
      repeat ((with_reducible show evIs _ (_ :: _) _ _); first | refine wQ ?_ | refine wF ?_ | refine wG ?_ | refine wT ?_ | refine wM ?_ | refine wS ?_ | refine wP ?_)
      clear hF
      repeat refine evDone ?_
      try (show AW _ _ _ _ _)
      have hF := True.intro
      refine wC (hA := hcall) ?_
      clear hF
      have hF := True.intro
      repeat ((with_reducible show evIs _ (_ :: _) _ _); first | refine wQ ?_ | refine wF ?_ | refine wG ?_ | refine wT ?_ | refine wM ?_ | refine wS ?_ | refine wP ?_)
      clear hF
      repeat refine evDone ?_
      try (show AW _ _ _ _ _)
      repeat refine AW.seq ?_
      refine AW.reg ?_
      by_cases hgt : D < d
      · have hDd : deps (is.take (i + 1)) = d := by omega
        have hF := hgt
        repeat ((with_reducible show evIs _ (_ :: _) _ _); first | refine wQ ?_ | refine wF ?_ | refine wG ?_ | refine wT ?_ | refine wM ?_ | refine wS ?_ | refine wP ?_)
        clear hF
        repeat refine evDone ?_
        try (show AW _ _ _ _ _)
        repeat refine AW.seq ?_
        refine AW.condT (by simp [hgt]) (by simp [hgt]) ?_
        repeat refine AW.seq ?_
        refine AW.reg ?_
        have hF := True.intro
        repeat ((with_reducible show evIs _ (_ :: _) _ _); first | refine wQ ?_ | refine wF ?_ | refine wG ?_ | refine wT ?_ | refine wM ?_ | refine wS ?_ | refine wP ?_)
        clear hF
        repeat refine evDone ?_
        try (show AW _ _ _ _ _)
        refine AW.reg ?_
        have hw : IntKind.i64.wrap ((i : Int) + 1) = (i : Int) + 1 := i64_in _ ⟨by omega, by omega⟩
        have hF := hw
        repeat ((with_reducible show evIs _ (_ :: _) _ _); first | refine wQ ?_ | refine wF ?_ | refine wG ?_ | refine wT ?_ | refine wM ?_ | refine wS ?_ | refine wP ?_)
        clear hF
        repeat refine evDone ?_
        try (show AW _ _ _ _ _)
        refine ⟨i + 1, by omega, by omega, ?_⟩
        refine Fit.mk _ _ _ (by simp [hw, hDd, conv2, newEmp, convs_refl, convs, conv]) (by simp [hw, hDd, heapFit, newEmp, conv2s, conv2, convs_refl, convs, conv]) (by intro q hq; first | (simp at hq; done) | (simp at hq; omega) | (simp at hq; simp; omega))
      · have hDd : deps (is.take (i + 1)) = D := by omega
        have hF := hgt
        repeat ((with_reducible show evIs _ (_ :: _) _ _); first | refine wQ ?_ | refine wF ?_ | refine wG ?_ | refine wT ?_ | refine wM ?_ | refine wS ?_ | refine wP ?_)
        clear hF
        repeat refine evDone ?_
        try (show AW _ _ _ _ _)
        repeat refine AW.seq ?_
        refine AW.condF (by simp [hgt]) (by simp [hgt]) ?_
        refine AW.skip ?_
        show AW _ _ _ _ _
        refine AW.reg ?_
        have hw : IntKind.i64.wrap ((i : Int) + 1) = (i : Int) + 1 := i64_in _ ⟨by omega, by omega⟩
        have hF := hw
        repeat ((with_reducible show evIs _ (_ :: _) _ _); first | refine wQ ?_ | refine wF ?_ | refine wG ?_ | refine wT ?_ | refine wM ?_ | refine wS ?_ | refine wP ?_)
        clear hF
        repeat refine evDone ?_
        try (show AW _ _ _ _ _)
        refine ⟨i + 1, by omega, by omega, ?_⟩
        refine Fit.mk _ _ _ (by simp [hw, hDd, conv2, newEmp, convs_refl, convs, conv]) (by simp [hw, hDd, heapFit, newEmp, conv2s, conv2, convs_refl, convs, conv]) (by intro q hq; first | (simp at hq; done) | (simp at hq; omega) | (simp at hq; simp; omega))
    · have hlt2 : ¬ (i : Int) < is.length := by omega
      have hF := And.intro (hlt) (hlt2)
      repeat ((with_reducible show evIs _ (_ :: _) _ _); first | refine wQ ?_ | refine wF ?_ | refine wG ?_ | refine wT ?_ | refine wM ?_ | refine wS ?_ | refine wP ?_)
      clear hF
      repeat refine evDone ?_
      try (show AW _ _ _ _ _)
      repeat refine AW.seq ?_
      refine AW.condF (by simp []) (by simp []) ?_
      refine AW.exit ?_
      show AW _ _ _ _ _
      have hii : i = is.length := by omega
      subst hii
      have htk : deps (is.take is.length) = deps is := by rw [List.take_length]
      have hdl := deps_le is
      have hw : IntKind.i64.wrap ((deps is : Int) + 1) = (deps is : Int) + 1 := i64_in _ ⟨by omega, by omega⟩
      repeat refine AW.seq ?_
      refine AW.reg ?_
      have hF := And.intro (hw) (htk)
      repeat ((with_reducible show evIs _ (_ :: _) _ _); first | refine wQ ?_ | refine wF ?_ | refine wG ?_ | refine wT ?_ | refine wM ?_ | refine wS ?_ | refine wP ?_)
      clear hF
      repeat refine evDone ?_
      try (show AW _ _ _ _ _)
      refine AW.ret (retI rfl ?_)
      simp [hw, htk, a26_res, resOk, resP, resV, ARes.op, R2s, R2, R1s, R1, closeOk, closeV]
theorem f26 (v : Val) (hok : v.okv) (hs : v.sz ≤ 1000000) : ACall Try.prog 26 [v.av] (· = .int .i64 v.dep) := by
  have key : ∀ (m : Nat) (v : Val), v.sz ≤ m → v.okv → v.sz ≤ 1000000 → ACall Try.prog 26 [v.av] (· = .int .i64 v.dep) := by
    intro m
    induction m using Nat.strongRecOn with
    | _ m ih => exact fun v hm hok hs => f26_step m (fun v' h => ih v'.sz h v' (Nat.le_refl _)) v hm hok hs
  exact key _ v (Nat.le_refl _) hok hs
theorem f27_step (m : Nat) (ih : ∀ v : Val, v.sz < m → v.okv → v.sz ≤ 1000000 → ACall Try.prog 27 [v.av] (· = .int .i64 v.sz))
    (v : Val) (hm : v.sz ≤ m) (hok : v.okv) (hs : v.sz ≤ 1000000) : ACall Try.prog 27 [v.av] (· = .int .i64 v.sz) := by
  obtain ⟨k, q, t, is, ks⟩ := v
  simp only [Val.av, Val.sz, Val.okv, Val.dep] at hm hok hs ⊢
  obtain ⟨ho1, ho2, ho3⟩ := hok
  refine a27_of (by simp) ?_
  repeat refine AW.seq ?_
  refine AW.reg ?_
  have hF := True.intro
  repeat ((with_reducible show evIs _ (_ :: _) _ _); first | refine wQ ?_ | refine wF ?_ | refine wG ?_ | refine wT ?_ | refine wM ?_ | refine wS ?_ | refine wP ?_)
  clear hF
  repeat refine evDone ?_
  try (show AW _ _ _ _ _)
  repeat refine AW.seq ?_
  refine AW.reg ?_
  have hF := True.intro
  repeat ((with_reducible show evIs _ (_ :: _) _ _); first | refine wQ ?_ | refine wF ?_ | refine wG ?_ | refine wT ?_ | refine wM ?_ | refine wS ?_ | refine wP ?_)
  clear hF
  repeat refine evDone ?_
  try (show AW _ _ _ _ _)
  repeat refine AW.seq ?_
  refine AW.reg ?_
  have hF := True.intro
  repeat ((with_reducible show evIs _ (_ :: _) _ _); first | refine wQ ?_ | refine wF ?_ | refine wG ?_ | refine wT ?_ | refine wM ?_ | refine wS ?_ | refine wP ?_)
  clear hF
  repeat refine evDone ?_
  try (show AW _ _ _ _ _)
  repeat refine AW.seq ?_
  refine AW.block ?_
  refine AW.loop (fun g : Nat × Nat => g.1 ≤ is.length ∧ 60 ≤ g.2) (fun g => mkS [(1, .ptr 0 0 0), (3, .int .i64 (pz is g.1)), (7, .sl .fro (avs is)), (8, .int .i64 is.length), (9, .int .i64 g.1)] [(0, ⟨5, true, [.agg [.int .i64 k, .int .i64 q, .str t, .sl .fro (avs is), .sl .fro (ks.map .str)]]⟩)] g.2) (fun g => is.length - g.1) (0, 60) ⟨by simp, by simp⟩ ?_ ?_
  · refine Fit.mk _ _ _ (by simp [pz_0, conv2, newEmp, convs_refl, convs, conv]) (by simp [pz_0, heapFit, newEmp, conv2s, conv2, convs_refl, convs, conv]) (by intro q hq; first | (simp at hq; done) | (simp at hq; omega) | (simp at hq; simp; omega))
  · rintro ⟨i, n⟩ ⟨hi, hn⟩
    dsimp only at hi hn ⊢
    have hnl : ∀ k, (n + k < n) = False := fun k => eq_false (by omega)

    repeat refine AW.seq ?_
    refine AW.reg ?_
    by_cases hlt : i < is.length
    · have hF := hlt
      repeat ((with_reducible show evIs _ (_ :: _) _ _); first | refine wQ ?_ | refine wF ?_ | refine wG ?_ | refine wT ?_ | refine wM ?_ | refine wS ?_ | refine wP ?_)
      clear hF
      repeat refine evDone ?_
      try (show AW _ _ _ _ _)
      repeat refine AW.seq ?_
      refine AW.condT (by simp []) (by simp []) ?_
      refine AW.skip ?_
      show AW _ _ _ _ _
      refine AW.seq (AW.block ?_)
      obtain ⟨x, hx⟩ : ∃ x, is[i]? = some x := ⟨_, List.getElem?_eq_getElem hlt⟩
      have he := elem_map (f := Val.av) hx
      rw [← vals_map] at he
      have hxm := List.mem_of_getElem? hx
      have hcall := ih x (by have := szs_mem hxm; omega) (okvs_mem ho3 hxm) (by have := szs_mem hxm; omega)
      have hst := szs_step hx
      have hle := szs_take_le is (i + 1)
      obtain ⟨d, hd⟩ : ∃ d, d = x.sz := ⟨_, rfl⟩
      rw [← hd] at hcall hst
      have hpz : pz is (i + 1) = pz is i + d := by simp only [pz, hst]; omega
      have hpl : pz is (i + 1) ≤ 1000001 := by simp only [pz]; omega
      have hmx : IntKind.i64.wrap ((pz is i : Int) + (d : Int)) = ((pz is (i + 1) : Nat) : Int) := by rw [i64_in _ ⟨by omega, by omega⟩]; omega
      obtain ⟨xk, xn, xt, xi, xs⟩ := x
      simp only [Val.av] at he hcall

      repeat refine AW.seq ?_
      refine AW.reg ?_
      have hF := And.intro (hlt) (And.intro (he) (hnl))
      repeat ((with_reducible show evIs _ (_ :: _) _ _); first | refine wQ ?_ | refine wF ?_ | refine wG ?_ | refine wT ?_ | refine wM ?_ | refine wS ?_ | refine wP ?_)
      clear hF
      repeat refine evDone ?_
      try (show AW _ _ _ _ _)
      repeat refine AW.seq ?_
      refine AW.reg ?_
      have hF := hnl
      repeat ((with_reducible show evIs _ (_ :: _) _ _); first | refine wQ ?_ | refine wF ?_ | refine wG ?_ | refine wT ?_ | refine wM ?_ | refine wS ?_ | refine wP ?_)
      clear hF
      repeat refine evDone ?_
      try (show AW _ _ _ _ _)
      have hF := hnl
      refine wC (hA := hcall) ?_
      clear hF
      have hF := And.intro (hnl) (hmx)
      repeat ((with_reducible show evIs _ (_ :: _) _ _); first | refine wQ ?_ | refine wF ?_ | refine wG ?_ | refine wT ?_ | refine wM ?_ | refine wS ?_ | refine wP ?_)
      clear hF
      repeat refine evDone ?_
      try (show AW _ _ _ _ _)
      refine AW.reg ?_
      have hw : IntKind.i64.wrap ((i : Int) + 1) = (i : Int) + 1 := i64_in _ ⟨by omega, by omega⟩
      have hF := hw
      repeat ((with_reducible show evIs _ (_ :: _) _ _); first | refine wQ ?_ | refine wF ?_ | refine wG ?_ | refine wT ?_ | refine wM ?_ | refine wS ?_ | refine wP ?_)
      clear hF
      repeat refine evDone ?_
      try (show AW _ _ _ _ _)
      refine ⟨(i + 1, n + 60), ⟨by dsimp only; omega, by dsimp only; omega⟩, by dsimp only; omega, ?_⟩
      refine Fit.mk _ _ _ (by simp [hw, hmx, conv2, newEmp, convs_refl, convs, conv]) (by simp [hw, hmx, heapFit, newEmp, conv2s, conv2, convs_refl, convs, conv]) (by intro q hq; first | (simp at hq; done) | (simp at hq; omega) | (simp at hq; simp; omega))
    · have hlt2 : ¬ (i : Int) < is.length := by omega
      have hF := And.intro (hlt) (hlt2)
      repeat ((with_reducible show evIs _ (_ :: _) _ _); first | refine wQ ?_ | refine wF ?_ | refine wG ?_ | refine wT ?_ | refine wM ?_ | refine wS ?_ | refine wP ?_)
      clear hF
      repeat refine evDone ?_
      try (show AW _ _ _ _ _)
      repeat refine AW.seq ?_
      refine AW.condF (by simp []) (by simp []) ?_
      refine AW.exit ?_
      show AW _ _ _ _ _
      have hii : i = is.length := by omega
      subst hii
      have htk : pz is is.length = szs is + 1 := by rw [pz, List.take_length]
      repeat refine AW.seq ?_
      refine AW.reg ?_
      have hF := htk
      repeat ((with_reducible show evIs _ (_ :: _) _ _); first | refine wQ ?_ | refine wF ?_ | refine wG ?_ | refine wT ?_ | refine wM ?_ | refine wS ?_ | refine wP ?_)
      clear hF
      repeat refine evDone ?_
      try (show AW _ _ _ _ _)
      refine AW.ret (retI rfl ?_)
      simp [htk, a27_res, resOk, resP, resV, ARes.op, R2s, R2, R1s, R1, closeOk, closeV]
theorem f27 (v : Val) (hok : v.okv) (hs : v.sz ≤ 1000000) : ACall Try.prog 27 [v.av] (· = .int .i64 v.sz) := by
  have key : ∀ (m : Nat) (v : Val), v.sz ≤ m → v.okv → v.sz ≤ 1000000 → ACall Try.prog 27 [v.av] (· = .int .i64 v.sz) := by
    intro m
    induction m using Nat.strongRecOn with
    | _ m ih => exact fun v hm hok hs => f27_step m (fun v' h => ih v'.sz h v' (Nat.le_refl _)) v hm hok hs
  exact key _ v (Nat.le_refl _) hok hs
theorem f28_step (m : Nat) (ih : ∀ v : Val, v.sz < m → v.okv → v.sz ≤ 1000000 → ACall Try.prog 28 [v.av] (· = .int .i64 v.sz))
    (v : Val) (hm : v.sz ≤ m) (hok : v.okv) (hs : v.sz ≤ 1000000) : ACall Try.prog 28 [v.av] (· = .int .i64 v.sz) := by
  obtain ⟨k, q, t, is, ks⟩ := v
  simp only [Val.av, Val.sz, Val.okv, Val.dep] at hm hok hs ⊢
  obtain ⟨ho1, ho2, ho3⟩ := hok
  refine a28_of (by simp) ?_
  repeat refine AW.seq ?_
  refine AW.reg ?_
  have hF := True.intro
  repeat ((with_reducible show evIs _ (_ :: _) _ _); first | refine wQ ?_ | refine wF ?_ | refine wG ?_ | refine wT ?_ | refine wM ?_ | refine wS ?_ | refine wP ?_)
  clear hF
  repeat refine evDone ?_
  try (show AW _ _ _ _ _)
  repeat refine AW.seq ?_
  refine AW.reg ?_
  have hF := True.intro
  repeat ((with_reducible show evIs _ (_ :: _) _ _); first | refine wQ ?_ | refine wF ?_ | refine wG ?_ | refine wT ?_ | refine wM ?_ | refine wS ?_ | refine wP ?_)
  clear hF
  repeat refine evDone ?_
  try (show AW _ _ _ _ _)
  repeat refine AW.seq ?_
  refine AW.reg ?_
  have hF := True.intro
  repeat ((with_reducible show evIs _ (_ :: _) _ _); first | refine wQ ?_ | refine wF ?_ | refine wG ?_ | refine wT ?_ | refine wM ?_ | refine wS ?_ | refine wP ?_)
  clear hF
  repeat refine evDone ?_
  try (show AW _ _ _ _ _)
  repeat refine AW.seq ?_
  refine AW.block ?_
  refine AW.loop (fun i : Nat => i ≤ is.length) (fun i => mkS [(1, .ptr 0 0 0), (3, .int .i64 (pz is i)), (4, .int .i64 i)] [(0, ⟨5, true, [.agg [.int .i64 k, .int .i64 q, .str t, .sl .fro (avs is), .sl .fro (ks.map .str)]]⟩)] 60) (fun i => is.length - i) 0 (by simp) ?_ ?_
  · refine Fit.mk _ _ _ (by simp [pz_0, conv2, newEmp, convs_refl, convs, conv]) (by simp [pz_0, heapFit, newEmp, conv2s, conv2, convs_refl, convs, conv]) (by intro q hq; first | (simp at hq; done) | (simp at hq; omega) | (simp at hq; simp; omega))
  · intro i hi

    repeat refine AW.seq ?_
    refine AW.reg ?_
    by_cases hlt : i < is.length
    · have hF := hlt
      repeat ((with_reducible show evIs _ (_ :: _) _ _); first | refine wQ ?_ | refine wF ?_ | refine wG ?_ | refine wT ?_ | refine wM ?_ | refine wS ?_ | refine wP ?_)
      clear hF
      repeat refine evDone ?_
      try (show AW _ _ _ _ _)
      repeat refine AW.seq ?_
      refine AW.condT (by simp []) (by simp []) ?_
      refine AW.skip ?_
      show AW _ _ _ _ _
      refine AW.seq (AW.block ?_)
      obtain ⟨x, hx⟩ : ∃ x, is[i]? = some x := ⟨_, List.getElem?_eq_getElem hlt⟩
      have he := elem_map (f := Val.av) hx
      rw [← vals_map] at he
      have hxm := List.mem_of_getElem? hx
      have hcall := ih x (by have := szs_mem hxm; omega) (okvs_mem ho3 hxm) (by have := szs_mem hxm; omega)
      have hst := szs_step hx
      have hle := szs_take_le is (i + 1)
      obtain ⟨d, hd⟩ : ∃ d, d = x.sz := ⟨_, rfl⟩
      rw [← hd] at hcall hst
      have hpz : pz is (i + 1) = pz is i + d := by simp only [pz, hst]; omega
      have hpl : pz is (i + 1) ≤ 1000001 := by simp only [pz]; omega
      have hmx : IntKind.i64.wrap ((pz is i : Int) + (d : Int)) = ((pz is (i + 1) : Nat) : Int) := by rw [i64_in _ ⟨by omega, by omega⟩]; omega
      obtain ⟨xk, xn, xt, xi, xs⟩ := x
      simp only [Val.av] at he hcall

      repeat refine AW.seq ?_
      refine AW.reg ?_
      have hF := And.intro (hlt) (he)
      repeat ((with_reducible show evIs _ (_ :: _) _ _); first | refine wQ ?_ | refine wF ?_ | refine wG ?_ | refine wT ?_ | refine wM ?_ | refine wS ?_ | refine wP ?_)
      clear hF
      repeat refine evDone ?_
      try (show AW _ _ _ _ _)
      have hF := True.intro
      refine wC (hA := hcall) ?_
      clear hF
      have hF := hmx
      repeat ((with_reducible show evIs _ (_ :: _) _ _); first | refine wQ ?_ | refine wF ?_ | refine wG ?_ | refine wT ?_ | refine wM ?_ | refine wS ?_ | refine wP ?_)
      clear hF
      repeat refine evDone ?_
      try (show AW _ _ _ _ _)
      refine AW.reg ?_
      have hw : IntKind.i64.wrap ((i : Int) + 1) = (i : Int) + 1 := i64_in _ ⟨by omega, by omega⟩
      have hF := hw
      repeat ((with_reducible show evIs _ (_ :: _) _ _); first | refine wQ ?_ | refine wF ?_ | refine wG ?_ | refine wT ?_ | refine wM ?_ | refine wS ?_ | refine wP ?_)
      clear hF
      repeat refine evDone ?_
      try (show AW _ _ _ _ _)
      refine ⟨i + 1, by omega, by omega, ?_⟩
      refine Fit.mk _ _ _ (by simp [hw, hmx, conv2, newEmp, convs_refl, convs, conv]) (by simp [hw, hmx, heapFit, newEmp, conv2s, conv2, convs_refl, convs, conv]) (by intro q hq; first | (simp at hq; done) | (simp at hq; omega) | (simp at hq; simp; omega))
    · have hlt2 : ¬ (i : Int) < is.length := by omega
      have hF := And.intro (hlt) (hlt2)
      repeat ((with_reducible show evIs _ (_ :: _) _ _); first | refine wQ ?_ | refine wF ?_ | refine wG ?_ | refine wT ?_ | refine wM ?_ | refine wS ?_ | refine wP ?_)
      clear hF
      repeat refine evDone ?_
      try (show AW _ _ _ _ _)
      repeat refine AW.seq ?_
      refine AW.condF (by simp []) (by simp []) ?_
      refine AW.exit ?_
      show AW _ _ _ _ _
      have hii : i = is.length := by omega
      subst hii
      have htk : pz is is.length = szs is + 1 := by rw [pz, List.take_length]
      repeat refine AW.seq ?_
      refine AW.reg ?_
      have hF := htk
      repeat ((with_reducible show evIs _ (_ :: _) _ _); first | refine wQ ?_ | refine wF ?_ | refine wG ?_ | refine wT ?_ | refine wM ?_ | refine wS ?_ | refine wP ?_)
      clear hF
      repeat refine evDone ?_
      try (show AW _ _ _ _ _)
      refine AW.ret (retI rfl ?_)
      simp [htk, a28_res, resOk, resP, resV, ARes.op, R2s, R2, R1s, R1, closeOk, closeV]
theorem f28 (v : Val) (hok : v.okv) (hs : v.sz ≤ 1000000) : ACall Try.prog 28 [v.av] (· = .int .i64 v.sz) := by
  have key : ∀ (m : Nat) (v : Val), v.sz ≤ m → v.okv → v.sz ≤ 1000000 → ACall Try.prog 28 [v.av] (· = .int .i64 v.sz) := by
    intro m
    induction m using Nat.strongRecOn with
    | _ m ih => exact fun v hm hok hs => f28_step m (fun v' h => ih v'.sz h v' (Nat.le_refl _)) v hm hok hs
  exact key _ v (Nat.le_refl _) hok hs
end Go.Proofs.Ytdnpnokplfemfaa

set_option linter.unusedSimpArgs false
set_option linter.unusedVariables false
set_option maxHeartbeats 8000000
namespace Go.Proofs.Ytdnpnokplfemfaa
open Go Go.Amb Go.IntWalk

mutual
def sameV : Val → Val → Bool
  | .mk k n t is ks, .mk k' n' t' is' ks' => decide (k = k') && (decide (n = n') && (decide (t = t') && (samesV is is' && decide (ks = ks'))))
def samesV : List Val → List Val → Bool
  | [], [] => true
  | v :: vs, w :: ws => sameV v w && samesV vs ws
  | [], _ :: _ => false
  | _ :: _, [] => false
end
theorem samesV_len : ∀ {vs ws : List Val}, ¬ vs.length = ws.length → samesV vs ws = false
  | [], [], h => absurd rfl h
  | [], _ :: _, _ => rfl
  | _ :: _, [], _ => rfl
  | v :: vs, w :: ws, h => by
    rw [samesV, samesV_len (vs := vs) (ws := ws) (fun e => h (by simp [e]))]
    simp
theorem samesV_at : ∀ {vs ws : List Val} {i : Nat} {x y : Val}, vs[i]? = some x → ws[i]? = some y → sameV x y = false → samesV vs ws = false
  | v :: vs, w :: ws, 0, x, y, hx, hy, h => by
    simp only [List.getElem?_cons_zero, Option.some.injEq] at hx hy
    subst hx hy
    rw [samesV, h]
    rfl
  | v :: vs, w :: ws, i + 1, x, y, hx, hy, h => by
    simp only [List.getElem?_cons_succ] at hx hy
    rw [samesV, samesV_at hx hy h]
    simp
theorem samesV_append : ∀ {vs ws : List Val} {x y : Val}, samesV vs ws = true → sameV x y = true → samesV (vs ++ [x]) (ws ++ [y]) = true
  | [], [], x, y, _, h => by simp [samesV, h]
  | [], w :: ws, _, _, h, _ => by cases h
  | v :: vs, [], _, _, h, _ => by cases h
  | v :: vs, w :: ws, x, y, h, h' => by
    rw [samesV, Bool.and_eq_true] at h
    simp only [List.cons_append]
    rw [samesV, h.1, samesV_append h.2 h']
    rfl
theorem samesV_step {vs ws : List Val} {i : Nat} {x y : Val} (hno : samesV (vs.take i) (ws.take i) = true) (hx : vs[i]? = some x) (hy : ws[i]? = some y) (h : sameV x y = true) : samesV (vs.take (i + 1)) (ws.take (i + 1)) = true := by
  rw [List.take_add_one, List.take_add_one, hx, hy]
  exact samesV_append hno h
theorem take_same {α : Type} {a b : List α} {i : Nat} {x : α} (hno : a.take i = b.take i) (hx : a[i]? = some x) (hy : b[i]? = some x) : a.take (i + 1) = b.take (i + 1) := by
  rw [List.take_add_one, List.take_add_one, hx, hy, hno]
theorem ne_of_at {α : Type} {a b : List α} {i : Nat} {x y : α} (hx : a[i]? = some x) (hy : b[i]? = some y) (h : ¬ x = y) : ¬ a = b := by
  rintro rfl
  rw [hx] at hy
  injection hy with hy
  exact h hy
mutual
theorem sameV_refl : ∀ v : Val, sameV v v = true
  | .mk k n t is ks => by simp [sameV, samesV_refl is]
theorem samesV_refl : ∀ vs : List Val, samesV vs vs = true
  | [] => rfl
  | v :: vs => by rw [samesV, sameV_refl v, samesV_refl vs]; rfl
end
mutual
theorem sameV_eq : ∀ {v w : Val}, sameV v w = true → v = w
  | .mk k n t is ks, .mk k' n' t' is' ks', h => by
    simp only [sameV, Bool.and_eq_true, decide_eq_true_eq] at h
    obtain ⟨rfl, rfl, rfl, h, rfl⟩ := h
    rw [samesV_eq h]
theorem samesV_eq : ∀ {vs ws : List Val}, samesV vs ws = true → vs = ws
  | [], [], _ => rfl
  | [], _ :: _, h => by cases h
  | _ :: _, [], h => by cases h
  | v :: vs, w :: ws, h => by
    rw [samesV, Bool.and_eq_true] at h
    rw [sameV_eq h.1, samesV_eq h.2]
end
theorem f16_step (m : Nat) (ih : ∀ v w : Val, v.sz < m → v.okv → w.okv → ACall Try.prog 16 [v.av, w.av] (· = .bool (sameV v w)))
    (v w : Val) (hm : v.sz ≤ m) (hok : v.okv) (hok' : w.okv) : ACall Try.prog 16 [v.av, w.av] (· = .bool (sameV v w)) := by
  obtain ⟨k, n, t, is, ks⟩ := v
  obtain ⟨k', n', t', is', ks'⟩ := w
  simp only [Val.av, Val.sz, Val.okv] at hm hok hok' ⊢
  have hsv := sameV.eq_1 k n t is ks k' n' t' is' ks'
  refine a16_of (by simp) ?_
  repeat refine AW.seq ?_
  refine AW.reg ?_
  have hF := True.intro
  repeat ((with_reducible show evIs _ (_ :: _) _ _); first | refine wQ ?_ | refine wF ?_ | refine wG ?_ | refine wT ?_ | refine wM ?_ | refine wS ?_ | refine wP ?_)
  clear hF
  repeat refine evDone ?_
  try (show AW _ _ _ _ _)
  repeat refine AW.seq ?_
  refine AW.reg ?_
  by_cases h1 : k = k'
  case neg =>
    have hF := h1
    repeat ((with_reducible show evIs _ (_ :: _) _ _); first | refine wQ ?_ | refine wF ?_ | refine wG ?_ | refine wT ?_ | refine wM ?_ | refine wS ?_ | refine wP ?_)
    clear hF
    repeat refine evDone ?_
    try (show AW _ _ _ _ _)
    repeat refine AW.seq ?_
    refine AW.condT (by simp [h1]) (by simp [h1]) ?_
    repeat refine AW.seq ?_
    refine AW.reg ?_
    have hF := True.intro
    repeat ((with_reducible show evIs _ (_ :: _) _ _); first | refine wQ ?_ | refine wF ?_ | refine wG ?_ | refine wT ?_ | refine wM ?_ | refine wS ?_ | refine wP ?_)
    clear hF
    repeat refine evDone ?_
    try (show AW _ _ _ _ _)
    refine AW.ret (retI rfl ?_)
    simp [hsv, h1, a16_res, resOk, resP, resV, ARes.op, R2s, R2, R1s, R1, closeOk, closeV]
  subst h1
  by_cases h2 : n = n'
  case neg =>
    have hF := h2
    repeat ((with_reducible show evIs _ (_ :: _) _ _); first | refine wQ ?_ | refine wF ?_ | refine wG ?_ | refine wT ?_ | refine wM ?_ | refine wS ?_ | refine wP ?_)
    clear hF
    repeat refine evDone ?_
    try (show AW _ _ _ _ _)
    repeat refine AW.seq ?_
    refine AW.condT (by simp [h2]) (by simp [h2]) ?_
    repeat refine AW.seq ?_
    refine AW.reg ?_
    have hF := True.intro
    repeat ((with_reducible show evIs _ (_ :: _) _ _); first | refine wQ ?_ | refine wF ?_ | refine wG ?_ | refine wT ?_ | refine wM ?_ | refine wS ?_ | refine wP ?_)
    clear hF
    repeat refine evDone ?_
    try (show AW _ _ _ _ _)
    refine AW.ret (retI rfl ?_)
    simp [hsv, h2, a16_res, resOk, resP, resV, ARes.op, R2s, R2, R1s, R1, closeOk, closeV]
  subst h2
  by_cases h3 : t = t'
  case neg =>
    have hF := h3
    repeat ((with_reducible show evIs _ (_ :: _) _ _); first | refine wQ ?_ | refine wF ?_ | refine wG ?_ | refine wT ?_ | refine wM ?_ | refine wS ?_ | refine wP ?_)
    clear hF
    repeat refine evDone ?_
    try (show AW _ _ _ _ _)
    repeat refine AW.seq ?_
    refine AW.condT (by simp [h3]) (by simp [h3]) ?_
    repeat refine AW.seq ?_
    refine AW.reg ?_
    have hF := True.intro
    repeat ((with_reducible show evIs _ (_ :: _) _ _); first | refine wQ ?_ | refine wF ?_ | refine wG ?_ | refine wT ?_ | refine wM ?_ | refine wS ?_ | refine wP ?_)
    clear hF
    repeat refine evDone ?_
    try (show AW _ _ _ _ _)
    refine AW.ret (retI rfl ?_)
    simp [hsv, h3, a16_res, resOk, resP, resV, ARes.op, R2s, R2, R1s, R1, closeOk, closeV]
  subst h3
  by_cases h4 : is.length = is'.length
  case neg =>
    have hss : samesV is is' = false := samesV_len h4
    have h4i : ¬ (is.length : Int) = is'.length := by omega
    have hF := h4i
    repeat ((with_reducible show evIs _ (_ :: _) _ _); first | refine wQ ?_ | refine wF ?_ | refine wG ?_ | refine wT ?_ | refine wM ?_ | refine wS ?_ | refine wP ?_)
    clear hF
    repeat refine evDone ?_
    try (show AW _ _ _ _ _)
    repeat refine AW.seq ?_
    refine AW.condT (by simp [h4i]) (by simp [h4i]) ?_
    repeat refine AW.seq ?_
    refine AW.reg ?_
    have hF := True.intro
    repeat ((with_reducible show evIs _ (_ :: _) _ _); first | refine wQ ?_ | refine wF ?_ | refine wG ?_ | refine wT ?_ | refine wM ?_ | refine wS ?_ | refine wP ?_)
    clear hF
    repeat refine evDone ?_
    try (show AW _ _ _ _ _)
    refine AW.ret (retI rfl ?_)
    simp [hsv, hss, a16_res, resOk, resP, resV, ARes.op, R2s, R2, R1s, R1, closeOk, closeV]
  by_cases h5 : ks.length = ks'.length
  case neg =>
    have hks : ¬ ks = ks' := fun e => h5 (by rw [e])
    have h5i : ¬ (ks.length : Int) = ks'.length := by omega
    have hF := And.intro (h4) (h5i)
    repeat ((with_reducible show evIs _ (_ :: _) _ _); first | refine wQ ?_ | refine wF ?_ | refine wG ?_ | refine wT ?_ | refine wM ?_ | refine wS ?_ | refine wP ?_)
    clear hF
    repeat refine evDone ?_
    try (show AW _ _ _ _ _)
    repeat refine AW.seq ?_
    refine AW.condT (by simp [h5i]) (by simp [h5i]) ?_
    repeat refine AW.seq ?_
    refine AW.reg ?_
    have hF := True.intro
    repeat ((with_reducible show evIs _ (_ :: _) _ _); first | refine wQ ?_ | refine wF ?_ | refine wG ?_ | refine wT ?_ | refine wM ?_ | refine wS ?_ | refine wP ?_)
    clear hF
    repeat refine evDone ?_
    try (show AW _ _ _ _ _)
    refine AW.ret (retI rfl ?_)
    simp [hsv, hks, a16_res, resOk, resP, resV, ARes.op, R2s, R2, R1s, R1, closeOk, closeV]
  have hF := And.intro (h4) (h5)
  repeat ((with_reducible show evIs _ (_ :: _) _ _); first | refine wQ ?_ | refine wF ?_ | refine wG ?_ | refine wT ?_ | refine wM ?_ | refine wS ?_ | refine wP ?_)
  clear hF
  repeat refine evDone ?_
  try (show AW _ _ _ _ _)
  repeat refine AW.seq ?_
  refine AW.condF (by simp []) (by simp []) ?_
  refine AW.skip ?_
  show AW _ _ _ _ _
  repeat refine AW.seq ?_
  refine AW.reg ?_
  have hF := True.intro
  repeat ((with_reducible show evIs _ (_ :: _) _ _); first | refine wQ ?_ | refine wF ?_ | refine wG ?_ | refine wT ?_ | refine wM ?_ | refine wS ?_ | refine wP ?_)
  clear hF
  repeat refine evDone ?_
  try (show AW _ _ _ _ _)
  repeat refine AW.seq ?_
  refine AW.block ?_
  refine AW.loop (fun i : Nat => i ≤ ks.length ∧ ks.take i = ks'.take i) (fun i => mkS [(2, .ptr 0 0 0), (3, .ptr 1 0 0), (5, .int .i64 i)] [(0, ⟨5, true, [.agg [.int .i64 k, .int .i64 n, .str t, .sl .fro (avs is), .sl .fro (ks.map .str)]]⟩), (1, ⟨5, true, [.agg [.int .i64 k, .int .i64 n, .str t, .sl .fro (avs is'), .sl .fro (ks'.map .str)]]⟩)] 60) (fun i => ks.length - i) 0 ⟨by simp, by simp⟩ ?_ ?_
  · refine Fit.mk _ _ _ (by simp [conv2, newEmp, convs_refl, convs, conv]) (by simp [heapFit, newEmp, conv2s, conv2, convs_refl, convs, conv]) (by intro q hq; first | (simp at hq; done) | (simp at hq; omega) | (simp at hq; simp; omega))
  rintro i ⟨hi, hno⟩
  repeat refine AW.seq ?_
  refine AW.reg ?_
  by_cases hlt : i < ks.length
  · have hF := hlt
    repeat ((with_reducible show evIs _ (_ :: _) _ _); first | refine wQ ?_ | refine wF ?_ | refine wG ?_ | refine wT ?_ | refine wM ?_ | refine wS ?_ | refine wP ?_)
    clear hF
    repeat refine evDone ?_
    try (show AW _ _ _ _ _)
    repeat refine AW.seq ?_
    refine AW.condT (by simp []) (by simp []) ?_
    refine AW.skip ?_
    show AW _ _ _ _ _
    refine AW.seq (AW.block ?_)
    obtain ⟨x, hx⟩ : ∃ x, ks[i]? = some x := ⟨_, List.getElem?_eq_getElem hlt⟩
    obtain ⟨y, hy⟩ : ∃ y, ks'[i]? = some y := ⟨_, List.getElem?_eq_getElem (by omega)⟩
    have he := elem_map (f := AV.str) hx
    have he' := elem_map (f := AV.str) hy
    have hlt' : i < ks'.length := by omega
    repeat refine AW.seq ?_
    refine AW.draw ?_
    by_cases hxy : x = y
    · subst hxy
      have hF := And.intro (hlt) (And.intro (hlt') (And.intro (he) (he')))
      repeat (first | refine wD1 ?_ | refine wD2 ?_ | refine wE1 ?_ | refine wE2 ?_ | (refine wE3 ?_; intro _) | (refine wE4 ?_; intro _) | refine wN ?_ | ((with_reducible show evIs _ (_ :: _) _ _); first | refine wQ ?_ | refine wF ?_ | refine wG ?_ | refine wT ?_ | refine wM ?_ | refine wS ?_ | refine wP ?_ | refine wJ ?_ | refine wX ?_ | refine wY ?_ | refine wZ ?_ | refine wU ?_ | refine wCp ?_ | refine wCp0 ?_ | refine wApz ?_ | (refine wCap ?_; intro qc hqc)))
      clear hF
      repeat refine evDone ?_
      try (show AW _ _ _ _ _)
      repeat refine AW.seq ?_
      refine AW.condF (by simp []) (by simp []) ?_
      refine AW.skip ?_
      show AW _ _ _ _ _
      refine AW.reg ?_
      have hw : IntKind.i64.wrap ((i : Int) + 1) = (i : Int) + 1 := i64_in _ ⟨by omega, by omega⟩
      have hF := hw
      repeat ((with_reducible show evIs _ (_ :: _) _ _); first | refine wQ ?_ | refine wF ?_ | refine wG ?_ | refine wT ?_ | refine wM ?_ | refine wS ?_ | refine wP ?_)
      clear hF
      repeat refine evDone ?_
      try (show AW _ _ _ _ _)
      refine ⟨i + 1, ⟨by omega, take_same hno hx hy⟩, by omega, ?_⟩
      refine Fit.mk _ _ _ (by simp [hw, conv2, newEmp, convs_refl, convs, conv]) (by simp [hw, heapFit, newEmp, conv2s, conv2, convs_refl, convs, conv]) (by intro q hq; first | (simp at hq; done) | (simp at hq; omega) | (simp at hq; simp; omega))
    · have hks : ¬ ks = ks' := ne_of_at hx hy hxy
      have hF := And.intro (hlt) (And.intro (hlt') (And.intro (he) (And.intro (he') (hxy))))
      repeat (first | refine wD1 ?_ | refine wD2 ?_ | refine wE1 ?_ | refine wE2 ?_ | (refine wE3 ?_; intro _) | (refine wE4 ?_; intro _) | refine wN ?_ | ((with_reducible show evIs _ (_ :: _) _ _); first | refine wQ ?_ | refine wF ?_ | refine wG ?_ | refine wT ?_ | refine wM ?_ | refine wS ?_ | refine wP ?_ | refine wJ ?_ | refine wX ?_ | refine wY ?_ | refine wZ ?_ | refine wU ?_ | refine wCp ?_ | refine wCp0 ?_ | refine wApz ?_ | (refine wCap ?_; intro qc hqc)))
      clear hF
      repeat refine evDone ?_
      try (show AW _ _ _ _ _)
      repeat refine AW.seq ?_
      refine AW.condT (by simp [hxy]) (by simp [hxy]) ?_
      repeat refine AW.seq ?_
      refine AW.reg ?_
      have hF := True.intro
      repeat ((with_reducible show evIs _ (_ :: _) _ _); first | refine wQ ?_ | refine wF ?_ | refine wG ?_ | refine wT ?_ | refine wM ?_ | refine wS ?_ | refine wP ?_)
      clear hF
      repeat refine evDone ?_
      try (show AW _ _ _ _ _)
      refine AW.ret (retI rfl ?_)
      simp [hsv, hks, a16_res, resOk, resP, resV, ARes.op, R2s, R2, R1s, R1, closeOk, closeV]
  · have hlt2 : ¬ (i : Int) < ks.length := by omega
    have hF := And.intro (hlt) (hlt2)
    repeat ((with_reducible show evIs _ (_ :: _) _ _); first | refine wQ ?_ | refine wF ?_ | refine wG ?_ | refine wT ?_ | refine wM ?_ | refine wS ?_ | refine wP ?_)
    clear hF
    repeat refine evDone ?_
    try (show AW _ _ _ _ _)
    repeat refine AW.seq ?_
    refine AW.condF (by simp []) (by simp []) ?_
    refine AW.exit ?_
    show AW _ _ _ _ _
    have hks : ks = ks' := by
      have hii : i = ks.length := by omega
      subst hii
      rw [List.take_length] at hno
      rw [hno, List.take_of_length_le (by omega)]

    repeat refine AW.seq ?_
    refine AW.reg ?_
    have hF := True.intro
    repeat ((with_reducible show evIs _ (_ :: _) _ _); first | refine wQ ?_ | refine wF ?_ | refine wG ?_ | refine wT ?_ | refine wM ?_ | refine wS ?_ | refine wP ?_)
    clear hF
    repeat refine evDone ?_
    try (show AW _ _ _ _ _)
    repeat refine AW.seq ?_
    refine AW.block ?_
    refine AW.loop (fun i : Nat => i ≤ is.length ∧ samesV (is.take i) (is'.take i) = true) (fun i => mkS [(2, .ptr 0 0 0), (3, .ptr 1 0 0), (6, .int .i64 i)] [(0, ⟨5, true, [.agg [.int .i64 k, .int .i64 n, .str t, .sl .fro (avs is), .sl .fro (ks.map .str)]]⟩), (1, ⟨5, true, [.agg [.int .i64 k, .int .i64 n, .str t, .sl .fro (avs is'), .sl .fro (ks'.map .str)]]⟩)] 60) (fun i => is.length - i) 0 ⟨by simp, by simp [samesV]⟩ ?_ ?_
    · refine Fit.mk _ _ _ (by simp [conv2, newEmp, convs_refl, convs, conv]) (by simp [heapFit, newEmp, conv2s, conv2, convs_refl, convs, conv]) (by intro q hq; first | (simp at hq; done) | (simp at hq; omega) | (simp at hq; simp; omega))
    rintro i ⟨hi, hno⟩
    repeat refine AW.seq ?_
    refine AW.reg ?_
    by_cases hlt : i < is.length
    · have hF := hlt
      repeat ((with_reducible show evIs _ (_ :: _) _ _); first | refine wQ ?_ | refine wF ?_ | refine wG ?_ | refine wT ?_ | refine wM ?_ | refine wS ?_ | refine wP ?_)
      clear hF
      repeat refine evDone ?_
      try (show AW _ _ _ _ _)
      repeat refine AW.seq ?_
      refine AW.condT (by simp []) (by simp []) ?_
      refine AW.skip ?_
      show AW _ _ _ _ _
      refine AW.seq (AW.block ?_)
      obtain ⟨x, hx⟩ : ∃ x, is[i]? = some x := ⟨_, List.getElem?_eq_getElem hlt⟩
      obtain ⟨y, hy⟩ : ∃ y, is'[i]? = some y := ⟨_, List.getElem?_eq_getElem (by omega)⟩
      have he := elem_map (f := Val.av) hx
      have he' := elem_map (f := Val.av) hy
      rw [← vals_map] at he he'
      have hlt' : i < is'.length := by omega
      have hxm := List.mem_of_getElem? hx
      have hym := List.mem_of_getElem? hy
      have hcall := ih x y (by have := szs_mem hxm; omega) (okvs_mem hok.2.2 hxm) (okvs_mem hok'.2.2 hym)
      have hstp := fun h => samesV_step hno hx hy h
      cases hxy : sameV x y with
      | true =>
        have hno1 := hstp hxy
        rw [hxy] at hcall
        obtain ⟨xk, xn, xt, xi, xs⟩ := x
        obtain ⟨yk, yn, yt, yi, ys⟩ := y
        simp only [Val.av] at he he' hcall
        repeat refine AW.seq ?_
        refine AW.draw ?_
        have hF := And.intro (hlt) (And.intro (hlt') (And.intro (he) (he')))
        repeat (first | refine wD1 ?_ | refine wD2 ?_ | refine wE1 ?_ | refine wE2 ?_ | (refine wE3 ?_; intro _) | (refine wE4 ?_; intro _) | refine wN ?_ | ((with_reducible show evIs _ (_ :: _) _ _); first | refine wQ ?_ | refine wF ?_ | refine wG ?_ | refine wT ?_ | refine wM ?_ | refine wS ?_ | refine wP ?_ | refine wJ ?_ | refine wX ?_ | refine wY ?_ | refine wZ ?_ | refine wU ?_ | refine wCp ?_ | refine wCp0 ?_ | refine wApz ?_ | (refine wCap ?_; intro qc hqc)))
        clear hF
        repeat refine evDone ?_
        try (show AW _ _ _ _ _)
        have hF := True.intro
        refine wC (hA := hcall) ?_
        clear hF
        have hF := True.intro
        repeat (first | refine wD1 ?_ | refine wD2 ?_ | refine wE1 ?_ | refine wE2 ?_ | (refine wE3 ?_; intro _) | (refine wE4 ?_; intro _) | refine wN ?_ | ((with_reducible show evIs _ (_ :: _) _ _); first | refine wQ ?_ | refine wF ?_ | refine wG ?_ | refine wT ?_ | refine wM ?_ | refine wS ?_ | refine wP ?_ | refine wJ ?_ | refine wX ?_ | refine wY ?_ | refine wZ ?_ | refine wU ?_ | refine wCp ?_ | refine wCp0 ?_ | refine wApz ?_ | (refine wCap ?_; intro qc hqc)))
        clear hF
        repeat refine evDone ?_
        try (show AW _ _ _ _ _)
        repeat refine AW.seq ?_
        refine AW.condF (by simp []) (by simp []) ?_
        refine AW.skip ?_
        show AW _ _ _ _ _
        refine AW.reg ?_
        have hw : IntKind.i64.wrap ((i : Int) + 1) = (i : Int) + 1 := i64_in _ ⟨by omega, by omega⟩
        have hF := hw
        repeat ((with_reducible show evIs _ (_ :: _) _ _); first | refine wQ ?_ | refine wF ?_ | refine wG ?_ | refine wT ?_ | refine wM ?_ | refine wS ?_ | refine wP ?_)
        clear hF
        repeat refine evDone ?_
        try (show AW _ _ _ _ _)
        refine ⟨i + 1, ⟨by omega, hno1⟩, by omega, ?_⟩
        refine Fit.mk _ _ _ (by simp [hw, conv2, newEmp, convs_refl, convs, conv]) (by simp [hw, heapFit, newEmp, conv2s, conv2, convs_refl, convs, conv]) (by intro q hq; first | (simp at hq; done) | (simp at hq; omega) | (simp at hq; simp; omega))
      | false =>
        have hss : samesV is is' = false := samesV_at hx hy hxy
        rw [hxy] at hcall
        obtain ⟨xk, xn, xt, xi, xs⟩ := x
        obtain ⟨yk, yn, yt, yi, ys⟩ := y
        simp only [Val.av] at he he' hcall
        repeat refine AW.seq ?_
        refine AW.draw ?_
        have hF := And.intro (hlt) (And.intro (hlt') (And.intro (he) (he')))
        repeat (first | refine wD1 ?_ | refine wD2 ?_ | refine wE1 ?_ | refine wE2 ?_ | (refine wE3 ?_; intro _) | (refine wE4 ?_; intro _) | refine wN ?_ | ((with_reducible show evIs _ (_ :: _) _ _); first | refine wQ ?_ | refine wF ?_ | refine wG ?_ | refine wT ?_ | refine wM ?_ | refine wS ?_ | refine wP ?_ | refine wJ ?_ | refine wX ?_ | refine wY ?_ | refine wZ ?_ | refine wU ?_ | refine wCp ?_ | refine wCp0 ?_ | refine wApz ?_ | (refine wCap ?_; intro qc hqc)))
        clear hF
        repeat refine evDone ?_
        try (show AW _ _ _ _ _)
        have hF := True.intro
        refine wC (hA := hcall) ?_
        clear hF
        have hF := True.intro
        repeat (first | refine wD1 ?_ | refine wD2 ?_ | refine wE1 ?_ | refine wE2 ?_ | (refine wE3 ?_; intro _) | (refine wE4 ?_; intro _) | refine wN ?_ | ((with_reducible show evIs _ (_ :: _) _ _); first | refine wQ ?_ | refine wF ?_ | refine wG ?_ | refine wT ?_ | refine wM ?_ | refine wS ?_ | refine wP ?_ | refine wJ ?_ | refine wX ?_ | refine wY ?_ | refine wZ ?_ | refine wU ?_ | refine wCp ?_ | refine wCp0 ?_ | refine wApz ?_ | (refine wCap ?_; intro qc hqc)))
        clear hF
        repeat refine evDone ?_
        try (show AW _ _ _ _ _)
        repeat refine AW.seq ?_
        refine AW.condT (by simp []) (by simp []) ?_
        repeat refine AW.seq ?_
        refine AW.reg ?_
        have hF := True.intro
        repeat ((with_reducible show evIs _ (_ :: _) _ _); first | refine wQ ?_ | refine wF ?_ | refine wG ?_ | refine wT ?_ | refine wM ?_ | refine wS ?_ | refine wP ?_)
        clear hF
        repeat refine evDone ?_
        try (show AW _ _ _ _ _)
        refine AW.ret (retI rfl ?_)
        simp [hsv, hss, a16_res, resOk, resP, resV, ARes.op, R2s, R2, R1s, R1, closeOk, closeV]
    · have hlt2 : ¬ (i : Int) < is.length := by omega
      have hF := And.intro (hlt) (hlt2)
      repeat ((with_reducible show evIs _ (_ :: _) _ _); first | refine wQ ?_ | refine wF ?_ | refine wG ?_ | refine wT ?_ | refine wM ?_ | refine wS ?_ | refine wP ?_)
      clear hF
      repeat refine evDone ?_
      try (show AW _ _ _ _ _)
      repeat refine AW.seq ?_
      refine AW.condF (by simp []) (by simp []) ?_
      refine AW.exit ?_
      show AW _ _ _ _ _
      have hss : samesV is is' = true := by
        have hii : i = is.length := by omega
        subst hii
        rwa [List.take_length, List.take_of_length_le (by omega)] at hno
      subst hks
      have hfin : sameV (.mk k n t is ks) (.mk k n t is' ks) = true := by rw [hsv, hss]; simp
      repeat refine AW.seq ?_
      refine AW.reg ?_
      have hF := True.intro
      repeat ((with_reducible show evIs _ (_ :: _) _ _); first | refine wQ ?_ | refine wF ?_ | refine wG ?_ | refine wT ?_ | refine wM ?_ | refine wS ?_ | refine wP ?_)
      clear hF
      repeat refine evDone ?_
      try (show AW _ _ _ _ _)
      refine AW.ret (retI rfl ?_)
      simp [hfin, a16_res, resOk, resP, resV, ARes.op, R2s, R2, R1s, R1, closeOk, closeV]
theorem f16 (v w : Val) (hok : v.okv) (hok' : w.okv) : ACall Try.prog 16 [v.av, w.av] (· = .bool (sameV v w)) := by
  have key : ∀ (m : Nat) (v w : Val), v.sz ≤ m → v.okv → w.okv → ACall Try.prog 16 [v.av, w.av] (· = .bool (sameV v w)) := by
    intro m
    induction m using Nat.strongRecOn with
    | _ m ih => exact fun v w hm hok hok' => f16_step m (fun v' w' h => ih v'.sz h v' w' (Nat.le_refl _)) v w hm hok hok'
  exact key _ v w (Nat.le_refl _) hok hok'
theorem f69 (ks ks' : List ByteArray) (hl : ks.length ≤ 9223372036854775807) : ACall Try.prog 69 [.sl .fro (ks.map .str), .sl .fro (ks'.map .str)] (· = .bool (decide (ks = ks'))) := by
  refine a69_of (by simp) ?_
  repeat refine AW.seq ?_
  refine AW.reg ?_
  have hF := True.intro
  repeat ((with_reducible show evIs _ (_ :: _) _ _); first | refine wQ ?_ | refine wF ?_ | refine wG ?_ | refine wT ?_ | refine wM ?_ | refine wS ?_ | refine wP ?_)
  clear hF
  repeat refine evDone ?_
  try (show AW _ _ _ _ _)
  repeat refine AW.seq ?_
  refine AW.reg ?_
  by_cases h5 : ks.length = ks'.length
  case neg =>
    have hks : ¬ ks = ks' := fun e => h5 (by rw [e])
    have h5i : ¬ (ks.length : Int) = ks'.length := by omega
    have hF := h5i
    repeat ((with_reducible show evIs _ (_ :: _) _ _); first | refine wQ ?_ | refine wF ?_ | refine wG ?_ | refine wT ?_ | refine wM ?_ | refine wS ?_ | refine wP ?_)
    clear hF
    repeat refine evDone ?_
    try (show AW _ _ _ _ _)
    repeat refine AW.seq ?_
    refine AW.condT (by simp [h5i]) (by simp [h5i]) ?_
    repeat refine AW.seq ?_
    refine AW.reg ?_
    have hF := True.intro
    repeat ((with_reducible show evIs _ (_ :: _) _ _); first | refine wQ ?_ | refine wF ?_ | refine wG ?_ | refine wT ?_ | refine wM ?_ | refine wS ?_ | refine wP ?_)
    clear hF
    repeat refine evDone ?_
    try (show AW _ _ _ _ _)
    refine AW.ret (retI rfl ?_)
    simp [hks, a69_res, resOk, resP, resV, ARes.op, R2s, R2, R1s, R1, closeOk, closeV]
  have hF := h5
  repeat ((with_reducible show evIs _ (_ :: _) _ _); first | refine wQ ?_ | refine wF ?_ | refine wG ?_ | refine wT ?_ | refine wM ?_ | refine wS ?_ | refine wP ?_)
  clear hF
  repeat refine evDone ?_
  try (show AW _ _ _ _ _)
  repeat refine AW.seq ?_
  refine AW.condF (by simp []) (by simp []) ?_
  refine AW.skip ?_
  show AW _ _ _ _ _
  repeat refine AW.seq ?_
  refine AW.reg ?_
  have hF := True.intro
  repeat ((with_reducible show evIs _ (_ :: _) _ _); first | refine wQ ?_ | refine wF ?_ | refine wG ?_ | refine wT ?_ | refine wM ?_ | refine wS ?_ | refine wP ?_)
  clear hF
  repeat refine evDone ?_
  try (show AW _ _ _ _ _)
  repeat refine AW.seq ?_
  refine AW.block ?_
  refine AW.loop (fun i : Nat => i ≤ ks.length ∧ ks.take i = ks'.take i) (fun i => mkS [(0, .sl .fro (ks.map .str)), (1, .sl .fro (ks'.map .str)), (12, .int .i64 ks.length), (13, .int .i64 i)] [] 60) (fun i => ks.length - i) 0 ⟨by simp, by simp⟩ ?_ ?_
  · refine Fit.mk _ _ _ (by simp [h5, conv2, newEmp, convs_refl, convs, conv]) (by simp [h5, heapFit, newEmp, conv2s, conv2, convs_refl, convs, conv]) (by intro q hq; first | (simp at hq; done) | (simp at hq; omega) | (simp at hq; simp; omega))
  rintro i ⟨hi, hno⟩
  repeat refine AW.seq ?_
  refine AW.reg ?_
  by_cases hlt : i < ks.length
  · have hF := hlt
    repeat ((with_reducible show evIs _ (_ :: _) _ _); first | refine wQ ?_ | refine wF ?_ | refine wG ?_ | refine wT ?_ | refine wM ?_ | refine wS ?_ | refine wP ?_)
    clear hF
    repeat refine evDone ?_
    try (show AW _ _ _ _ _)
    repeat refine AW.seq ?_
    refine AW.condT (by simp []) (by simp []) ?_
    refine AW.skip ?_
    show AW _ _ _ _ _
    refine AW.seq (AW.block ?_)
    obtain ⟨x, hx⟩ : ∃ x, ks[i]? = some x := ⟨_, List.getElem?_eq_getElem hlt⟩
    obtain ⟨y, hy⟩ : ∃ y, ks'[i]? = some y := ⟨_, List.getElem?_eq_getElem (by omega)⟩
    have he := elem_map (f := AV.str) hx
    have he' := elem_map (f := AV.str) hy
    have hlt' : i < ks'.length := by omega
    repeat refine AW.seq ?_
    refine AW.reg ?_
    have hF := True.intro
    repeat ((with_reducible show evIs _ (_ :: _) _ _); first | refine wQ ?_ | refine wF ?_ | refine wG ?_ | refine wT ?_ | refine wM ?_ | refine wS ?_ | refine wP ?_)
    clear hF
    repeat refine evDone ?_
    try (show AW _ _ _ _ _)
    repeat refine AW.seq ?_
    refine AW.draw ?_
    by_cases hxy : x = y
    · subst hxy
      have hF := And.intro (hlt) (And.intro (hlt') (And.intro (he) (he')))
      repeat (first | refine wD1 ?_ | refine wD2 ?_ | refine wE1 ?_ | refine wE2 ?_ | (refine wE3 ?_; intro _) | (refine wE4 ?_; intro _) | refine wN ?_ | ((with_reducible show evIs _ (_ :: _) _ _); first | refine wQ ?_ | refine wF ?_ | refine wG ?_ | refine wT ?_ | refine wM ?_ | refine wS ?_ | refine wP ?_ | refine wJ ?_ | refine wX ?_ | refine wY ?_ | refine wZ ?_ | refine wU ?_ | refine wCp ?_ | refine wCp0 ?_ | refine wApz ?_ | (refine wCap ?_; intro qc hqc)))
      clear hF
      repeat refine evDone ?_
      try (show AW _ _ _ _ _)
      repeat refine AW.seq ?_
      refine AW.condF (by simp []) (by simp []) ?_
      refine AW.skip ?_
      show AW _ _ _ _ _
      refine AW.reg ?_
      have hw : IntKind.i64.wrap ((i : Int) + 1) = (i : Int) + 1 := i64_in _ ⟨by omega, by omega⟩
      have hF := hw
      repeat ((with_reducible show evIs _ (_ :: _) _ _); first | refine wQ ?_ | refine wF ?_ | refine wG ?_ | refine wT ?_ | refine wM ?_ | refine wS ?_ | refine wP ?_)
      clear hF
      repeat refine evDone ?_
      try (show AW _ _ _ _ _)
      refine ⟨i + 1, ⟨by omega, take_same hno hx hy⟩, by omega, ?_⟩
      refine Fit.mk _ _ _ (by simp [hw, conv2, newEmp, convs_refl, convs, conv]) (by simp [hw, heapFit, newEmp, conv2s, conv2, convs_refl, convs, conv]) (by intro q hq; first | (simp at hq; done) | (simp at hq; omega) | (simp at hq; simp; omega))
    · have hks : ¬ ks = ks' := ne_of_at hx hy hxy
      have hF := And.intro (hlt) (And.intro (hlt') (And.intro (he) (And.intro (he') (hxy))))
      repeat (first | refine wD1 ?_ | refine wD2 ?_ | refine wE1 ?_ | refine wE2 ?_ | (refine wE3 ?_; intro _) | (refine wE4 ?_; intro _) | refine wN ?_ | ((with_reducible show evIs _ (_ :: _) _ _); first | refine wQ ?_ | refine wF ?_ | refine wG ?_ | refine wT ?_ | refine wM ?_ | refine wS ?_ | refine wP ?_ | refine wJ ?_ | refine wX ?_ | refine wY ?_ | refine wZ ?_ | refine wU ?_ | refine wCp ?_ | refine wCp0 ?_ | refine wApz ?_ | (refine wCap ?_; intro qc hqc)))
      clear hF
      repeat refine evDone ?_
      try (show AW _ _ _ _ _)
      repeat refine AW.seq ?_
      refine AW.condT (by simp [hxy]) (by simp [hxy]) ?_
      repeat refine AW.seq ?_
      refine AW.reg ?_
      have hF := True.intro
      repeat ((with_reducible show evIs _ (_ :: _) _ _); first | refine wQ ?_ | refine wF ?_ | refine wG ?_ | refine wT ?_ | refine wM ?_ | refine wS ?_ | refine wP ?_)
      clear hF
      repeat refine evDone ?_
      try (show AW _ _ _ _ _)
      refine AW.ret (retI rfl ?_)
      simp [hks, a69_res, resOk, resP, resV, ARes.op, R2s, R2, R1s, R1, closeOk, closeV]
  · have hlt2 : ¬ (i : Int) < ks.length := by omega
    have hF := And.intro (hlt) (hlt2)
    repeat ((with_reducible show evIs _ (_ :: _) _ _); first | refine wQ ?_ | refine wF ?_ | refine wG ?_ | refine wT ?_ | refine wM ?_ | refine wS ?_ | refine wP ?_)
    clear hF
    repeat refine evDone ?_
    try (show AW _ _ _ _ _)
    repeat refine AW.seq ?_
    refine AW.condF (by simp []) (by simp []) ?_
    refine AW.exit ?_
    show AW _ _ _ _ _
    have hks : ks = ks' := by
      have hii : i = ks.length := by omega
      subst hii
      rw [List.take_length] at hno
      rw [hno, List.take_of_length_le (by omega)]

    repeat refine AW.seq ?_
    refine AW.reg ?_
    have hF := True.intro
    repeat ((with_reducible show evIs _ (_ :: _) _ _); first | refine wQ ?_ | refine wF ?_ | refine wG ?_ | refine wT ?_ | refine wM ?_ | refine wS ?_ | refine wP ?_)
    clear hF
    repeat refine evDone ?_
    try (show AW _ _ _ _ _)
    refine AW.ret (retI rfl ?_)
    simp [hks, a69_res, resOk, resP, resV, ARes.op, R2s, R2, R1s, R1, closeOk, closeV]
theorem f70 (is is' : List Val) (hl : is.length ≤ 9223372036854775807) (hp : ∀ x ∈ is, ∀ y ∈ is', ACall Try.prog 24 [x.av, y.av] (· = .bool (sameV x y))) : ACall Try.prog 70 [.sl .fro (avs is), .sl .fro (avs is'), .fn 24 []] (· = .bool (samesV is is')) := by
  refine a70_of (by simp) ?_
  repeat refine AW.seq ?_
  refine AW.reg ?_
  have hF := True.intro
  repeat ((with_reducible show evIs _ (_ :: _) _ _); first | refine wQ ?_ | refine wF ?_ | refine wG ?_ | refine wT ?_ | refine wM ?_ | refine wS ?_ | refine wP ?_)
  clear hF
  repeat refine evDone ?_
  try (show AW _ _ _ _ _)
  repeat refine AW.seq ?_
  refine AW.reg ?_
  by_cases h4 : is.length = is'.length
  case neg =>
    have hss : samesV is is' = false := samesV_len h4
    have h4i : ¬ (is.length : Int) = is'.length := by omega
    have hF := h4i
    repeat ((with_reducible show evIs _ (_ :: _) _ _); first | refine wQ ?_ | refine wF ?_ | refine wG ?_ | refine wT ?_ | refine wM ?_ | refine wS ?_ | refine wP ?_)
    clear hF
    repeat refine evDone ?_
    try (show AW _ _ _ _ _)
    repeat refine AW.seq ?_
    refine AW.condT (by simp [h4i]) (by simp [h4i]) ?_
    repeat refine AW.seq ?_
    refine AW.reg ?_
    have hF := True.intro
    repeat ((with_reducible show evIs _ (_ :: _) _ _); first | refine wQ ?_ | refine wF ?_ | refine wG ?_ | refine wT ?_ | refine wM ?_ | refine wS ?_ | refine wP ?_)
    clear hF
    repeat refine evDone ?_
    try (show AW _ _ _ _ _)
    refine AW.ret (retI rfl ?_)
    simp [hss, a70_res, resOk, resP, resV, ARes.op, R2s, R2, R1s, R1, closeOk, closeV]
  have hF := h4
  repeat ((with_reducible show evIs _ (_ :: _) _ _); first | refine wQ ?_ | refine wF ?_ | refine wG ?_ | refine wT ?_ | refine wM ?_ | refine wS ?_ | refine wP ?_)
  clear hF
  repeat refine evDone ?_
  try (show AW _ _ _ _ _)
  repeat refine AW.seq ?_
  refine AW.condF (by simp []) (by simp []) ?_
  refine AW.skip ?_
  show AW _ _ _ _ _
  repeat refine AW.seq ?_
  refine AW.reg ?_
  have hF := True.intro
  repeat ((with_reducible show evIs _ (_ :: _) _ _); first | refine wQ ?_ | refine wF ?_ | refine wG ?_ | refine wT ?_ | refine wM ?_ | refine wS ?_ | refine wP ?_)
  clear hF
  repeat refine evDone ?_
  try (show AW _ _ _ _ _)
  repeat refine AW.seq ?_
  refine AW.block ?_
  refine AW.loop (fun g : Nat × Nat => g.1 ≤ is.length ∧ 60 ≤ g.2 ∧ (samesV (is.take g.1) (is'.take g.1) = true)) (fun g => mkS [(0, .sl .fro (avs is)), (1, .sl .fro (avs is')), (2, .fn 24 []), (15, .sl .fro (avs is)), (16, .int .i64 is.length), (17, .int .i64 g.1)] [] g.2) (fun g => is.length - g.1) (0, 60) ⟨by simp, by simp, by simp [samesV]⟩ ?_ ?_
  · refine Fit.mk _ _ _ (by simp [h4, conv2, newEmp, convs_refl, convs, conv]) (by simp [h4, heapFit, newEmp, conv2s, conv2, convs_refl, convs, conv]) (by intro q hq; first | (simp at hq; done) | (simp at hq; omega) | (simp at hq; simp; omega))
  · rintro ⟨i, n⟩ ⟨hi, hn, hno⟩
    dsimp only at hi hn hno ⊢
    have hnl : ∀ k, (n + k < n) = False := fun k => eq_false (by omega)

    repeat refine AW.seq ?_
    refine AW.reg ?_
    by_cases hlt : i < is.length
    · have hF := hlt
      repeat ((with_reducible show evIs _ (_ :: _) _ _); first | refine wQ ?_ | refine wF ?_ | refine wG ?_ | refine wT ?_ | refine wM ?_ | refine wS ?_ | refine wP ?_)
      clear hF
      repeat refine evDone ?_
      try (show AW _ _ _ _ _)
      repeat refine AW.seq ?_
      refine AW.condT (by simp []) (by simp []) ?_
      refine AW.skip ?_
      show AW _ _ _ _ _
      refine AW.seq (AW.block ?_)
      obtain ⟨x, hx⟩ : ∃ x, is[i]? = some x := ⟨_, List.getElem?_eq_getElem hlt⟩
      obtain ⟨y, hy⟩ : ∃ y, is'[i]? = some y := ⟨_, List.getElem?_eq_getElem (by omega)⟩
      have he := elem_map (f := Val.av) hx
      have he' := elem_map (f := Val.av) hy
      rw [← vals_map] at he he'
      have hlt' : i < is'.length := by omega
      have hxm := List.mem_of_getElem? hx
      have hym := List.mem_of_getElem? hy
      have hcall := hp x hxm y hym
      have hstp := fun h => samesV_step hno hx hy h
      cases hxy : sameV x y with
      | true =>
        have hno1 := hstp hxy
        rw [hxy] at hcall
        obtain ⟨xk, xn, xt, xi, xs⟩ := x
        obtain ⟨yk, yn, yt, yi, ys⟩ := y
        simp only [Val.av] at he he' hcall
        repeat refine AW.seq ?_
        refine AW.reg ?_
        have hF := And.intro (hlt) (And.intro (hlt') (And.intro (he) (And.intro (he') (hnl))))
        repeat ((with_reducible show evIs _ (_ :: _) _ _); first | refine wQ ?_ | refine wF ?_ | refine wG ?_ | refine wT ?_ | refine wM ?_ | refine wS ?_ | refine wP ?_)
        clear hF
        repeat refine evDone ?_
        try (show AW _ _ _ _ _)
        repeat refine AW.seq ?_
        refine AW.reg ?_
        have hF := And.intro (hlt) (And.intro (hlt') (And.intro (he) (And.intro (he') (hnl))))
        repeat ((with_reducible show evIs _ (_ :: _) _ _); first | refine wQ ?_ | refine wF ?_ | refine wG ?_ | refine wT ?_ | refine wM ?_ | refine wS ?_ | refine wP ?_)
        clear hF
        repeat refine evDone ?_
        try (show AW _ _ _ _ _)
        repeat refine AW.seq ?_
        refine AW.reg ?_
        have hF := hnl
        repeat ((with_reducible show evIs _ (_ :: _) _ _); first | refine wQ ?_ | refine wF ?_ | refine wG ?_ | refine wT ?_ | refine wM ?_ | refine wS ?_ | refine wP ?_)
        clear hF
        repeat refine evDone ?_
        try (show AW _ _ _ _ _)
        have hF := hnl
        refine wV (hA := hcall) ?_
        clear hF
        have hF := hnl
        repeat ((with_reducible show evIs _ (_ :: _) _ _); first | refine wQ ?_ | refine wF ?_ | refine wG ?_ | refine wT ?_ | refine wM ?_ | refine wS ?_ | refine wP ?_)
        clear hF
        repeat refine evDone ?_
        try (show AW _ _ _ _ _)
        repeat refine AW.seq ?_
        refine AW.condF (by simp []) (by simp []) ?_
        refine AW.skip ?_
        show AW _ _ _ _ _
        refine AW.reg ?_
        have hw : IntKind.i64.wrap ((i : Int) + 1) = (i : Int) + 1 := i64_in _ ⟨by omega, by omega⟩
        have hF := hw
        repeat ((with_reducible show evIs _ (_ :: _) _ _); first | refine wQ ?_ | refine wF ?_ | refine wG ?_ | refine wT ?_ | refine wM ?_ | refine wS ?_ | refine wP ?_)
        clear hF
        repeat refine evDone ?_
        try (show AW _ _ _ _ _)
        refine ⟨(i + 1, n + 60), ⟨by dsimp only; omega, by dsimp only; omega, hno1⟩, by dsimp only; omega, ?_⟩
        refine Fit.mk _ _ _ (by simp [hw, conv2, newEmp, convs_refl, convs, conv]) (by simp [hw, heapFit, newEmp, conv2s, conv2, convs_refl, convs, conv]) (by intro q hq; first | (simp at hq; done) | (simp at hq; omega) | (simp at hq; simp; omega))
      | false =>
        have hss : samesV is is' = false := samesV_at hx hy hxy
        rw [hxy] at hcall
        obtain ⟨xk, xn, xt, xi, xs⟩ := x
        obtain ⟨yk, yn, yt, yi, ys⟩ := y
        simp only [Val.av] at he he' hcall
        repeat refine AW.seq ?_
        refine AW.reg ?_
        have hF := And.intro (hlt) (And.intro (hlt') (And.intro (he) (And.intro (he') (hnl))))
        repeat ((with_reducible show evIs _ (_ :: _) _ _); first | refine wQ ?_ | refine wF ?_ | refine wG ?_ | refine wT ?_ | refine wM ?_ | refine wS ?_ | refine wP ?_)
        clear hF
        repeat refine evDone ?_
        try (show AW _ _ _ _ _)
        repeat refine AW.seq ?_
        refine AW.reg ?_
        have hF := And.intro (hlt) (And.intro (hlt') (And.intro (he) (And.intro (he') (hnl))))
        repeat ((with_reducible show evIs _ (_ :: _) _ _); first | refine wQ ?_ | refine wF ?_ | refine wG ?_ | refine wT ?_ | refine wM ?_ | refine wS ?_ | refine wP ?_)
        clear hF
        repeat refine evDone ?_
        try (show AW _ _ _ _ _)
        repeat refine AW.seq ?_
        refine AW.reg ?_
        have hF := hnl
        repeat ((with_reducible show evIs _ (_ :: _) _ _); first | refine wQ ?_ | refine wF ?_ | refine wG ?_ | refine wT ?_ | refine wM ?_ | refine wS ?_ | refine wP ?_)
        clear hF
        repeat refine evDone ?_
        try (show AW _ _ _ _ _)
        have hF := hnl
        refine wV (hA := hcall) ?_
        clear hF
        have hF := hnl
        repeat ((with_reducible show evIs _ (_ :: _) _ _); first | refine wQ ?_ | refine wF ?_ | refine wG ?_ | refine wT ?_ | refine wM ?_ | refine wS ?_ | refine wP ?_)
        clear hF
        repeat refine evDone ?_
        try (show AW _ _ _ _ _)
        repeat refine AW.seq ?_
        refine AW.condT (by simp []) (by simp []) ?_
        repeat refine AW.seq ?_
        refine AW.reg ?_
        have hF := True.intro
        repeat ((with_reducible show evIs _ (_ :: _) _ _); first | refine wQ ?_ | refine wF ?_ | refine wG ?_ | refine wT ?_ | refine wM ?_ | refine wS ?_ | refine wP ?_)
        clear hF
        repeat refine evDone ?_
        try (show AW _ _ _ _ _)
        refine AW.ret (retI rfl ?_)
        simp [hss, a70_res, resOk, resP, resV, ARes.op, R2s, R2, R1s, R1, closeOk, closeV]
    · have hlt2 : ¬ (i : Int) < is.length := by omega
      have hF := And.intro (hlt) (hlt2)
      repeat ((with_reducible show evIs _ (_ :: _) _ _); first | refine wQ ?_ | refine wF ?_ | refine wG ?_ | refine wT ?_ | refine wM ?_ | refine wS ?_ | refine wP ?_)
      clear hF
      repeat refine evDone ?_
      try (show AW _ _ _ _ _)
      repeat refine AW.seq ?_
      refine AW.condF (by simp []) (by simp []) ?_
      refine AW.exit ?_
      show AW _ _ _ _ _
      have hss : samesV is is' = true := by
        have hii : i = is.length := by omega
        subst hii
        rwa [List.take_length, List.take_of_length_le (by omega)] at hno
      repeat refine AW.seq ?_
      refine AW.reg ?_
      have hF := True.intro
      repeat ((with_reducible show evIs _ (_ :: _) _ _); first | refine wQ ?_ | refine wF ?_ | refine wG ?_ | refine wT ?_ | refine wM ?_ | refine wS ?_ | refine wP ?_)
      clear hF
      repeat refine evDone ?_
      try (show AW _ _ _ _ _)
      refine AW.ret (retI rfl ?_)
      simp [hss, a70_res, resOk, resP, resV, ARes.op, R2s, R2, R1s, R1, closeOk, closeV]
theorem f24_step (m : Nat) (ih : ∀ v w : Val, v.sz < m → v.okv → w.okv → ACall Try.prog 24 [v.av, w.av] (· = .bool (sameV v w)))
    (v w : Val) (hm : v.sz ≤ m) (hok : v.okv) (hok' : w.okv) : ACall Try.prog 24 [v.av, w.av] (· = .bool (sameV v w)) := by
  obtain ⟨k, n, t, is, ks⟩ := v
  obtain ⟨k', n', t', is', ks'⟩ := w
  simp only [Val.av, Val.sz, Val.okv] at hm hok hok' ⊢
  have hsv := sameV.eq_1 k n t is ks k' n' t' is' ks'
  have h69 := f69 ks ks' (by omega)
  have h70 := f70 is is' (by omega) fun x hx y hy => ih x y (by have := szs_mem hx; omega) (okvs_mem hok.2.2 hx) (okvs_mem hok'.2.2 hy)
  refine a24_of (by simp) ?_
  repeat refine AW.seq ?_
  refine AW.reg ?_
  have hF := True.intro
  repeat ((with_reducible show evIs _ (_ :: _) _ _); first | refine wQ ?_ | refine wF ?_ | refine wG ?_ | refine wT ?_ | refine wM ?_ | refine wS ?_ | refine wP ?_)
  clear hF
  repeat refine evDone ?_
  try (show AW _ _ _ _ _)
  repeat refine AW.seq ?_
  refine AW.reg ?_
  by_cases h1 : k = k'
  case neg =>
    have hF := h1
    repeat ((with_reducible show evIs _ (_ :: _) _ _); first | refine wQ ?_ | refine wF ?_ | refine wG ?_ | refine wT ?_ | refine wM ?_ | refine wS ?_ | refine wP ?_)
    clear hF
    repeat refine evDone ?_
    try (show AW _ _ _ _ _)
    refine AW.ret (retI rfl ?_)
    simp [hsv, h1, a24_res, resOk, resP, resV, ARes.op, R2s, R2, R1s, R1, closeOk, closeV]
  subst h1
  by_cases h2 : n = n'
  case neg =>
    have hF := h2
    repeat ((with_reducible show evIs _ (_ :: _) _ _); first | refine wQ ?_ | refine wF ?_ | refine wG ?_ | refine wT ?_ | refine wM ?_ | refine wS ?_ | refine wP ?_)
    clear hF
    repeat refine evDone ?_
    try (show AW _ _ _ _ _)
    refine AW.ret (retI rfl ?_)
    simp [hsv, h2, a24_res, resOk, resP, resV, ARes.op, R2s, R2, R1s, R1, closeOk, closeV]
  subst h2
  by_cases h3 : t = t'
  case neg =>
    have hF := h3
    repeat ((with_reducible show evIs _ (_ :: _) _ _); first | refine wQ ?_ | refine wF ?_ | refine wG ?_ | refine wT ?_ | refine wM ?_ | refine wS ?_ | refine wP ?_)
    clear hF
    repeat refine evDone ?_
    try (show AW _ _ _ _ _)
    refine AW.ret (retI rfl ?_)
    simp [hsv, h3, a24_res, resOk, resP, resV, ARes.op, R2s, R2, R1s, R1, closeOk, closeV]
  subst h3
  have hF := True.intro
  repeat ((with_reducible show evIs _ (_ :: _) _ _); first | refine wQ ?_ | refine wF ?_ | refine wG ?_ | refine wT ?_ | refine wM ?_ | refine wS ?_ | refine wP ?_)
  clear hF
  repeat refine evDone ?_
  try (show AW _ _ _ _ _)
  have hF := True.intro
  refine wC (hA := h69) ?_
  clear hF
  by_cases h5 : ks = ks'
  case neg =>
    have hF := h5
    repeat ((with_reducible show evIs _ (_ :: _) _ _); first | refine wQ ?_ | refine wF ?_ | refine wG ?_ | refine wT ?_ | refine wM ?_ | refine wS ?_ | refine wP ?_)
    clear hF
    repeat refine evDone ?_
    try (show AW _ _ _ _ _)
    refine AW.ret (retI rfl ?_)
    simp [hsv, h5, a24_res, resOk, resP, resV, ARes.op, R2s, R2, R1s, R1, closeOk, closeV]
  subst h5
  have hF := True.intro
  repeat ((with_reducible show evIs _ (_ :: _) _ _); first | refine wQ ?_ | refine wF ?_ | refine wG ?_ | refine wT ?_ | refine wM ?_ | refine wS ?_ | refine wP ?_)
  clear hF
  repeat refine evDone ?_
  try (show AW _ _ _ _ _)
  have hF := True.intro
  refine wC (hA := h70) ?_
  clear hF
  have hF := True.intro
  repeat ((with_reducible show evIs _ (_ :: _) _ _); first | refine wQ ?_ | refine wF ?_ | refine wG ?_ | refine wT ?_ | refine wM ?_ | refine wS ?_ | refine wP ?_)
  clear hF
  repeat refine evDone ?_
  try (show AW _ _ _ _ _)
  refine AW.ret (retI rfl ?_)
  simp [hsv, a24_res, resOk, resP, resV, ARes.op, R2s, R2, R1s, R1, closeOk, closeV]
theorem f24 (v w : Val) (hok : v.okv) (hok' : w.okv) : ACall Try.prog 24 [v.av, w.av] (· = .bool (sameV v w)) := by
  have key : ∀ (m : Nat) (v w : Val), v.sz ≤ m → v.okv → w.okv → ACall Try.prog 24 [v.av, w.av] (· = .bool (sameV v w)) := by
    intro m
    induction m using Nat.strongRecOn with
    | _ m ih => exact fun v w hm hok hok' => f24_step m (fun v' w' h => ih v'.sz h v' w' (Nat.le_refl _)) v w hm hok hok'
  exact key _ v w (Nat.le_refl _) hok hok'
end Go.Proofs.Ytdnpnokplfemfaa

set_option linter.unusedSimpArgs false
set_option linter.unusedVariables false
set_option maxHeartbeats 8000000
namespace Go.Proofs.Ytdnpnokplfemfaa
open Go Go.Amb Go.IntWalk

def rising : List ByteArray → Bool
  | [] => true
  | [_] => true
  | a :: b :: l => Op.bytesLess a.toList b.toList && rising (b :: l)
theorem rising_one (l : List ByteArray) : rising (l.take (0 + 1)) = true := by
  cases l with
  | nil => rfl
  | cons a l => simp [rising]
theorem rising_snoc : ∀ {l : List ByteArray} {x y : ByteArray}, rising (l ++ [x, y]) = (rising (l ++ [x]) && Op.bytesLess x.toList y.toList)
  | [], x, y => by simp [rising]
  | [a], x, y => by simp [rising, Bool.and_assoc]
  | a :: b :: l, x, y => by
    have ih := rising_snoc (l := b :: l) (x := x) (y := y)
    simp only [List.cons_append] at ih ⊢
    rw [rising, ih, rising, Bool.and_assoc]
theorem rising_step {l : List ByteArray} {i : Nat} {x y : ByteArray} (hx : l[i]? = some x) (hy : l[i + 1]? = some y) (h : rising (l.take (i + 1)) = true) : rising (l.take (i + 1 + 1)) = Op.bytesLess x.toList y.toList := by
  rw [List.take_add_one, List.take_add_one, hx] at *
  rw [hy]
  have := rising_snoc (l := l.take i) (x := x) (y := y)
  simp only [Option.toList, List.append_assoc, List.cons_append, List.nil_append] at this h ⊢
  rw [this, h]
  rfl
theorem rising_pre : ∀ {a b : List ByteArray}, rising a = false → rising (a ++ b) = false
  | [], _, h => by simp [rising] at h
  | [x], _, h => by simp [rising] at h
  | x :: y :: l, b, h => by
    rw [rising] at h
    simp only [List.cons_append]
    rw [rising]
    cases hb : Op.bytesLess x.toList y.toList with
    | false => rfl
    | true =>
      rw [hb] at h
      have := rising_pre (a := y :: l) (b := b) (by simpa using h)
      simpa using this
theorem rising_bad {l : List ByteArray} {i : Nat} (h : rising (l.take i) = false) : rising l = false := by
  have := rising_pre (b := l.drop i) h
  rwa [List.take_append_drop] at this
def wfN (f : Bool) (k n : Int) (t : ByteArray) (is : List Val) (ks : List ByteArray) : Bool :=
  if k = 0 then decide (n = 0) && (decide (t = ⟨#[]⟩) && (is.isEmpty && ks.isEmpty))
  else if k = 1 then (decide (n = 0) || decide (n = 1)) && (decide (t = ⟨#[]⟩) && (is.isEmpty && ks.isEmpty))
  else if k = 2 then decide (t = ⟨#[]⟩) && (is.isEmpty && ks.isEmpty)
  else if k = 3 then decide (n = 0) && (is.isEmpty && ks.isEmpty)
  else if k = 4 then decide (n = 0) && (decide (t = ⟨#[]⟩) && ks.isEmpty)
  else if k = 5 then decide (n = 0) && (decide (t = ⟨#[]⟩) && (decide (ks.length = is.length) && rising ks))
  else if k = 6 then f && (decide (0 ≤ n) && (decide (t = ⟨#[]⟩) && (is.isEmpty && ks.isEmpty)))
  else false
mutual
def wfV (f : Bool) : Val → Bool
  | .mk k n t is ks => wfN f k n t is ks && wfsV f is
def wfsV (f : Bool) : List Val → Bool
  | [] => true
  | v :: vs => wfV f v && wfsV f vs
end
theorem wfsV_all (f : Bool) (vs : List Val) : wfsV f vs = vs.all (wfV f) := by
  induction vs with
  | nil => rfl
  | cons v vs ih => rw [wfsV, ih]; rfl
theorem wfsV_at {f : Bool} {vs : List Val} {i : Nat} {x : Val} (hx : vs[i]? = some x) (h : wfV f x = false) : wfsV f vs = false := by
  rw [wfsV_all, List.all_eq_false]
  exact ⟨x, List.mem_of_getElem? hx, by simp [h]⟩
theorem wfsV_step {f : Bool} {vs : List Val} {i : Nat} {x : Val} (hno : wfsV f (vs.take i) = true) (hx : vs[i]? = some x) (h : wfV f x = true) : wfsV f (vs.take (i + 1)) = true := by
  rw [wfsV_all] at hno ⊢
  rw [List.take_add_one, hx, List.all_append, hno]
  simp [h]
theorem wfsV_any (f : Bool) (vs : List Val) : wfsV f vs = !vs.any (fun x => !wfV f x) := by
  rw [wfsV_all, List.any_eq_not_all_not]
  simp
def idx {α : Type} (xs : List α) (p : α → Bool) : Int := match xs.findIdx? p with | some k => k | none => -1
theorem find_at {α : Type} {xs : List α} {p : α → Bool} {i : Nat} {x : α} (hno : ∀ j, j < i → ∀ x, xs[j]? = some x → p x = false) (hx : xs[i]? = some x) (hp : p x = true) : xs.findIdx? p = some i := by
  rw [List.findIdx?_eq_some_iff_getElem]
  obtain ⟨hi, rfl⟩ := List.getElem?_eq_some_iff.1 hx
  exact ⟨hi, hp, fun j hj => by simpa using hno j hj _ (List.getElem?_eq_getElem (by omega))⟩
theorem find_none {α : Type} {xs : List α} {p : α → Bool} (hno : ∀ j, j < xs.length → ∀ x, xs[j]? = some x → p x = false) : xs.findIdx? p = none := by
  rw [List.findIdx?_eq_none_iff]
  intro x hx
  obtain ⟨j, hj, rfl⟩ := List.getElem_of_mem hx
  exact hno j hj _ (List.getElem?_eq_getElem hj)
theorem no_step {α : Type} {xs : List α} {p : α → Bool} {i : Nat} {x : α} (hno : ∀ j, j < i → ∀ x, xs[j]? = some x → p x = false) (hx : xs[i]? = some x) (hp : p x = false) : ∀ j, j < i + 1 → ∀ x, xs[j]? = some x → p x = false := by
  intro j hj y hy
  by_cases hji : j = i
  · subst hji; rw [hx] at hy; injection hy with hy; subst hy; exact hp
  · exact hno j (by omega) y hy
theorem idx_any {α : Type} (xs : List α) (p : α → Bool) : decide (0 ≤ idx xs p) = xs.any p := by
  unfold idx
  cases h : xs.findIdx? p with
  | none =>
    have := List.findIdx?_eq_none_iff.1 h
    have h2 : xs.any p = false := by rw [List.any_eq_false]; intro x hx; simpa using this x hx
    rw [h2]
    rfl
  | some k =>
    obtain ⟨hk, h1, _⟩ := List.findIdx?_eq_some_iff_getElem.1 h
    have h2 : xs.any p = true := by rw [List.any_eq_true]; exact ⟨_, List.getElem_mem hk, h1⟩
    rw [h2]
    simp
theorem f60 (ks : List ByteArray) (hl : ks.length ≤ 8796093022208) : ACall Try.prog 60 [.sl .fro (ks.map .str)] (· = .bool (rising ks)) := by
  refine a60_of (by simp) ?_
  repeat refine AW.seq ?_
  refine AW.reg ?_
  have hF := True.intro
  repeat ((with_reducible show evIs _ (_ :: _) _ _); first | refine wQ ?_ | refine wF ?_ | refine wG ?_ | refine wT ?_ | refine wM ?_ | refine wS ?_ | refine wP ?_)
  clear hF
  repeat refine evDone ?_
  try (show AW _ _ _ _ _)
  repeat refine AW.seq ?_
  refine AW.reg ?_
  have hF := True.intro
  repeat ((with_reducible show evIs _ (_ :: _) _ _); first | refine wQ ?_ | refine wF ?_ | refine wG ?_ | refine wT ?_ | refine wM ?_ | refine wS ?_ | refine wP ?_)
  clear hF
  repeat refine evDone ?_
  try (show AW _ _ _ _ _)
  repeat refine AW.seq ?_
  refine AW.block ?_
  refine AW.loop (fun i : Nat => rising (ks.take (i + 1)) = true ∧ i ≤ ks.length) (fun i => mkS [(0, .sl .fro (ks.map .str)), (3, .int .i64 ((i + 1 : Nat) : Int))] [] 0) (fun i => ks.length - i) 0 ⟨rising_one ks, by simp⟩ ?_ ?_
  · refine Fit.mk _ _ _ (by simp [conv2, newEmp, convs_refl, convs, conv]) (by simp [heapFit, newEmp, conv2s, conv2, convs_refl, convs, conv]) (by intro q hq; first | (simp at hq; done) | (simp at hq; omega) | (simp at hq; simp; omega))
  rintro i ⟨hno, hi⟩
  repeat refine AW.seq ?_
  refine AW.reg ?_
  by_cases hlt : i + 1 < ks.length
  · have hw1 : IntKind.i64.wrap (i : Int) = (i : Int) := i64_in _ ⟨by omega, by omega⟩
    have hci : ((i + 1 : Nat) : Int) = (i : Int) + 1 := by omega
    have hti : ((i : Int) + 1).toNat = i + 1 := by omega
    have hlt0 : i < ks.length := by omega
    have hlt1 : (i : Int) + 1 < ks.length := by omega
    have hz1 : (0 : Int) ≤ (i : Int) + 1 := by omega
    rw [hci]
    have hF := hlt1
    repeat ((with_reducible show evIs _ (_ :: _) _ _); first | refine wQ ?_ | refine wF ?_ | refine wG ?_ | refine wT ?_ | refine wM ?_ | refine wS ?_ | refine wP ?_)
    clear hF
    repeat refine evDone ?_
    try (show AW _ _ _ _ _)
    repeat refine AW.seq ?_
    refine AW.condT (by simp []) (by simp []) ?_
    refine AW.skip ?_
    show AW _ _ _ _ _
    refine AW.seq (AW.block ?_)
    obtain ⟨x, hx⟩ : ∃ x, ks[i]? = some x := ⟨_, List.getElem?_eq_getElem hlt0⟩
    obtain ⟨y, hy⟩ : ∃ y, ks[i + 1]? = some y := ⟨_, List.getElem?_eq_getElem hlt⟩
    have he := elem_map (f := AV.str) hx
    have he' := elem_map (f := AV.str) hy
    have hstp := rising_step hx hy hno
    repeat refine AW.seq ?_
    refine AW.draw ?_
    cases hxy : Op.bytesLess x.toList y.toList with
    | true =>
      rw [hxy] at hstp
      have hF := And.intro (hw1) (And.intro (hti) (And.intro (hlt) (And.intro (hlt0) (And.intro (hlt1) (And.intro (hz1) (And.intro (he) (And.intro (he') (hxy))))))))
      repeat (first | refine wD1 ?_ | refine wD2 ?_ | refine wE1 ?_ | refine wE2 ?_ | (refine wE3 ?_; intro _) | (refine wE4 ?_; intro _) | refine wN ?_ | ((with_reducible show evIs _ (_ :: _) _ _); first | refine wQ ?_ | refine wF ?_ | refine wG ?_ | refine wT ?_ | refine wM ?_ | refine wS ?_ | refine wP ?_ | refine wJ ?_ | refine wX ?_ | refine wY ?_ | refine wZ ?_ | refine wU ?_ | refine wCp ?_ | refine wCp0 ?_ | refine wApz ?_ | (refine wCap ?_; intro qc hqc)))
      clear hF
      repeat refine evDone ?_
      try (show AW _ _ _ _ _)
      repeat refine AW.seq ?_
      refine AW.condF (by simp []) (by simp []) ?_
      refine AW.skip ?_
      show AW _ _ _ _ _
      refine AW.reg ?_
      have hw : IntKind.i64.wrap ((i : Int) + 1 + 1) = ((i + 1 + 1 : Nat) : Int) := by rw [i64_in _ ⟨by omega, by omega⟩]; omega
      have hF := hw
      repeat ((with_reducible show evIs _ (_ :: _) _ _); first | refine wQ ?_ | refine wF ?_ | refine wG ?_ | refine wT ?_ | refine wM ?_ | refine wS ?_ | refine wP ?_)
      clear hF
      repeat refine evDone ?_
      try (show AW _ _ _ _ _)
      refine ⟨i + 1, ⟨hstp, by omega⟩, by omega, ?_⟩
      refine Fit.mk _ _ _ (by simp [hw, conv2, newEmp, convs_refl, convs, conv]) (by simp [hw, heapFit, newEmp, conv2s, conv2, convs_refl, convs, conv]) (by intro q hq; first | (simp at hq; done) | (simp at hq; omega) | (simp at hq; simp; omega))
    | false =>
      rw [hxy] at hstp
      have hr : rising ks = false := rising_bad hstp
      have hF := And.intro (hw1) (And.intro (hti) (And.intro (hlt) (And.intro (hlt0) (And.intro (hlt1) (And.intro (hz1) (And.intro (he) (And.intro (he') (hxy))))))))
      repeat (first | refine wD1 ?_ | refine wD2 ?_ | refine wE1 ?_ | refine wE2 ?_ | (refine wE3 ?_; intro _) | (refine wE4 ?_; intro _) | refine wN ?_ | ((with_reducible show evIs _ (_ :: _) _ _); first | refine wQ ?_ | refine wF ?_ | refine wG ?_ | refine wT ?_ | refine wM ?_ | refine wS ?_ | refine wP ?_ | refine wJ ?_ | refine wX ?_ | refine wY ?_ | refine wZ ?_ | refine wU ?_ | refine wCp ?_ | refine wCp0 ?_ | refine wApz ?_ | (refine wCap ?_; intro qc hqc)))
      clear hF
      repeat refine evDone ?_
      try (show AW _ _ _ _ _)
      repeat refine AW.seq ?_
      refine AW.condT (by simp []) (by simp []) ?_
      repeat refine AW.seq ?_
      refine AW.reg ?_
      have hF := True.intro
      repeat ((with_reducible show evIs _ (_ :: _) _ _); first | refine wQ ?_ | refine wF ?_ | refine wG ?_ | refine wT ?_ | refine wM ?_ | refine wS ?_ | refine wP ?_)
      clear hF
      repeat refine evDone ?_
      try (show AW _ _ _ _ _)
      refine AW.ret (retI rfl ?_)
      simp [hr, a60_res, resOk, resP, resV, ARes.op, R2s, R2, R1s, R1, closeOk, closeV]
  · have hlt2 : ¬ ((i + 1 : Nat) : Int) < ks.length := by omega
    have hr : rising ks = true := by rwa [List.take_of_length_le (by omega)] at hno
    have hci : ((i + 1 : Nat) : Int) = (i : Int) + 1 := by omega
    rw [hci] at hlt2 ⊢
    have hF := hlt2
    repeat ((with_reducible show evIs _ (_ :: _) _ _); first | refine wQ ?_ | refine wF ?_ | refine wG ?_ | refine wT ?_ | refine wM ?_ | refine wS ?_ | refine wP ?_)
    clear hF
    repeat refine evDone ?_
    try (show AW _ _ _ _ _)
    repeat refine AW.seq ?_
    refine AW.condF (by simp [hlt2]) (by simp [hlt2]) ?_
    refine AW.exit ?_
    show AW _ _ _ _ _
    repeat refine AW.seq ?_
    refine AW.reg ?_
    have hF := True.intro
    repeat ((with_reducible show evIs _ (_ :: _) _ _); first | refine wQ ?_ | refine wF ?_ | refine wG ?_ | refine wT ?_ | refine wM ?_ | refine wS ?_ | refine wP ?_)
    clear hF
    repeat refine evDone ?_
    try (show AW _ _ _ _ _)
    refine AW.ret (retI rfl ?_)
    simp [hr, a60_res, resOk, resP, resV, ARes.op, R2s, R2, R1s, R1, closeOk, closeV]
theorem f86 (ks : List ByteArray) (hl : ks.length ≤ 8796093022208) : ACall Try.prog 86 [.sl .fro (ks.map .str)] (· = .bool (rising ks)) := by
  refine a86_of (by simp) ?_
  repeat refine AW.seq ?_
  refine AW.reg ?_
  have hF := True.intro
  repeat ((with_reducible show evIs _ (_ :: _) _ _); first | refine wQ ?_ | refine wF ?_ | refine wG ?_ | refine wT ?_ | refine wM ?_ | refine wS ?_ | refine wP ?_)
  clear hF
  repeat refine evDone ?_
  try (show AW _ _ _ _ _)
  repeat refine AW.seq ?_
  refine AW.reg ?_
  have hF := True.intro
  repeat ((with_reducible show evIs _ (_ :: _) _ _); first | refine wQ ?_ | refine wF ?_ | refine wG ?_ | refine wT ?_ | refine wM ?_ | refine wS ?_ | refine wP ?_)
  clear hF
  repeat refine evDone ?_
  try (show AW _ _ _ _ _)
  repeat refine AW.seq ?_
  refine AW.block ?_
  refine AW.loop (fun i : Nat => rising (ks.take (i + 1)) = true ∧ i ≤ ks.length) (fun i => mkS [(0, .sl .fro (ks.map .str)), (3, .int .i64 ((i + 1 : Nat) : Int))] [] 0) (fun i => ks.length - i) 0 ⟨rising_one ks, by simp⟩ ?_ ?_
  · refine Fit.mk _ _ _ (by simp [conv2, newEmp, convs_refl, convs, conv]) (by simp [heapFit, newEmp, conv2s, conv2, convs_refl, convs, conv]) (by intro q hq; first | (simp at hq; done) | (simp at hq; omega) | (simp at hq; simp; omega))
  rintro i ⟨hno, hi⟩
  repeat refine AW.seq ?_
  refine AW.reg ?_
  by_cases hlt : i + 1 < ks.length
  · have hw1 : IntKind.i64.wrap (i : Int) = (i : Int) := i64_in _ ⟨by omega, by omega⟩
    have hci : ((i + 1 : Nat) : Int) = (i : Int) + 1 := by omega
    have hti : ((i : Int) + 1).toNat = i + 1 := by omega
    have hlt0 : i < ks.length := by omega
    have hlt1 : (i : Int) + 1 < ks.length := by omega
    have hz1 : (0 : Int) ≤ (i : Int) + 1 := by omega
    rw [hci]
    have hF := hlt1
    repeat ((with_reducible show evIs _ (_ :: _) _ _); first | refine wQ ?_ | refine wF ?_ | refine wG ?_ | refine wT ?_ | refine wM ?_ | refine wS ?_ | refine wP ?_)
    clear hF
    repeat refine evDone ?_
    try (show AW _ _ _ _ _)
    repeat refine AW.seq ?_
    refine AW.condT (by simp []) (by simp []) ?_
    refine AW.skip ?_
    show AW _ _ _ _ _
    refine AW.seq (AW.block ?_)
    obtain ⟨x, hx⟩ : ∃ x, ks[i]? = some x := ⟨_, List.getElem?_eq_getElem hlt0⟩
    obtain ⟨y, hy⟩ : ∃ y, ks[i + 1]? = some y := ⟨_, List.getElem?_eq_getElem hlt⟩
    have he := elem_map (f := AV.str) hx
    have he' := elem_map (f := AV.str) hy
    have hstp := rising_step hx hy hno
    repeat refine AW.seq ?_
    refine AW.draw ?_
    cases hxy : Op.bytesLess x.toList y.toList with
    | true =>
      rw [hxy] at hstp
      have hF := And.intro (hw1) (And.intro (hti) (And.intro (hlt) (And.intro (hlt0) (And.intro (hlt1) (And.intro (hz1) (And.intro (he) (And.intro (he') (hxy))))))))
      repeat (first | refine wD1 ?_ | refine wD2 ?_ | refine wE1 ?_ | refine wE2 ?_ | (refine wE3 ?_; intro _) | (refine wE4 ?_; intro _) | refine wN ?_ | ((with_reducible show evIs _ (_ :: _) _ _); first | refine wQ ?_ | refine wF ?_ | refine wG ?_ | refine wT ?_ | refine wM ?_ | refine wS ?_ | refine wP ?_ | refine wJ ?_ | refine wX ?_ | refine wY ?_ | refine wZ ?_ | refine wU ?_ | refine wCp ?_ | refine wCp0 ?_ | refine wApz ?_ | (refine wCap ?_; intro qc hqc)))
      clear hF
      repeat refine evDone ?_
      try (show AW _ _ _ _ _)
      repeat refine AW.seq ?_
      refine AW.condF (by simp []) (by simp []) ?_
      refine AW.skip ?_
      show AW _ _ _ _ _
      refine AW.reg ?_
      have hw : IntKind.i64.wrap ((i : Int) + 1 + 1) = ((i + 1 + 1 : Nat) : Int) := by rw [i64_in _ ⟨by omega, by omega⟩]; omega
      have hF := hw
      repeat ((with_reducible show evIs _ (_ :: _) _ _); first | refine wQ ?_ | refine wF ?_ | refine wG ?_ | refine wT ?_ | refine wM ?_ | refine wS ?_ | refine wP ?_)
      clear hF
      repeat refine evDone ?_
      try (show AW _ _ _ _ _)
      refine ⟨i + 1, ⟨hstp, by omega⟩, by omega, ?_⟩
      refine Fit.mk _ _ _ (by simp [hw, conv2, newEmp, convs_refl, convs, conv]) (by simp [hw, heapFit, newEmp, conv2s, conv2, convs_refl, convs, conv]) (by intro q hq; first | (simp at hq; done) | (simp at hq; omega) | (simp at hq; simp; omega))
    | false =>
      rw [hxy] at hstp
      have hr : rising ks = false := rising_bad hstp
      have hF := And.intro (hw1) (And.intro (hti) (And.intro (hlt) (And.intro (hlt0) (And.intro (hlt1) (And.intro (hz1) (And.intro (he) (And.intro (he') (hxy))))))))
      repeat (first | refine wD1 ?_ | refine wD2 ?_ | refine wE1 ?_ | refine wE2 ?_ | (refine wE3 ?_; intro _) | (refine wE4 ?_; intro _) | refine wN ?_ | ((with_reducible show evIs _ (_ :: _) _ _); first | refine wQ ?_ | refine wF ?_ | refine wG ?_ | refine wT ?_ | refine wM ?_ | refine wS ?_ | refine wP ?_ | refine wJ ?_ | refine wX ?_ | refine wY ?_ | refine wZ ?_ | refine wU ?_ | refine wCp ?_ | refine wCp0 ?_ | refine wApz ?_ | (refine wCap ?_; intro qc hqc)))
      clear hF
      repeat refine evDone ?_
      try (show AW _ _ _ _ _)
      repeat refine AW.seq ?_
      refine AW.condT (by simp []) (by simp []) ?_
      repeat refine AW.seq ?_
      refine AW.reg ?_
      have hF := True.intro
      repeat ((with_reducible show evIs _ (_ :: _) _ _); first | refine wQ ?_ | refine wF ?_ | refine wG ?_ | refine wT ?_ | refine wM ?_ | refine wS ?_ | refine wP ?_)
      clear hF
      repeat refine evDone ?_
      try (show AW _ _ _ _ _)
      refine AW.ret (retI rfl ?_)
      simp [hr, a86_res, resOk, resP, resV, ARes.op, R2s, R2, R1s, R1, closeOk, closeV]
  · have hlt2 : ¬ ((i + 1 : Nat) : Int) < ks.length := by omega
    have hr : rising ks = true := by rwa [List.take_of_length_le (by omega)] at hno
    have hci : ((i + 1 : Nat) : Int) = (i : Int) + 1 := by omega
    rw [hci] at hlt2 ⊢
    have hF := hlt2
    repeat ((with_reducible show evIs _ (_ :: _) _ _); first | refine wQ ?_ | refine wF ?_ | refine wG ?_ | refine wT ?_ | refine wM ?_ | refine wS ?_ | refine wP ?_)
    clear hF
    repeat refine evDone ?_
    try (show AW _ _ _ _ _)
    repeat refine AW.seq ?_
    refine AW.condF (by simp [hlt2]) (by simp [hlt2]) ?_
    refine AW.exit ?_
    show AW _ _ _ _ _
    repeat refine AW.seq ?_
    refine AW.reg ?_
    have hF := True.intro
    repeat ((with_reducible show evIs _ (_ :: _) _ _); first | refine wQ ?_ | refine wF ?_ | refine wG ?_ | refine wT ?_ | refine wM ?_ | refine wS ?_ | refine wP ?_)
    clear hF
    repeat refine evDone ?_
    try (show AW _ _ _ _ _)
    refine AW.ret (retI rfl ?_)
    simp [hr, a86_res, resOk, resP, resV, ARes.op, R2s, R2, R1s, R1, closeOk, closeV]
theorem f113 (xs : List Val) (hlen : xs.length ≤ 9223372036854775807) (g : Nat) (caps : List AV) (p : Val → Bool) (hp : ∀ x ∈ xs, ACall Try.prog g (x.av :: caps) (· = .bool (p x))) (hcap : ∀ h, caps.map (fzA h) = caps) (hok : okAs noF noF caps) :
    ACall Try.prog 113 [.sl .fro (avs xs), .fn g caps] (· = .int .i64 (idx xs p)) := by
  refine a113_of (by simp) ?_
  repeat refine AW.seq ?_
  refine AW.reg ?_
  have hF := True.intro
  repeat ((with_reducible show evIs _ (_ :: _) _ _); first | refine wQ ?_ | refine wF ?_ | refine wG ?_ | refine wT ?_ | refine wM ?_ | refine wS ?_ | refine wP ?_)
  clear hF
  repeat refine evDone ?_
  try (show AW _ _ _ _ _)
  repeat refine AW.seq ?_
  refine AW.reg ?_
  have hF := True.intro
  repeat ((with_reducible show evIs _ (_ :: _) _ _); first | refine wQ ?_ | refine wF ?_ | refine wG ?_ | refine wT ?_ | refine wM ?_ | refine wS ?_ | refine wP ?_)
  clear hF
  repeat refine evDone ?_
  try (show AW _ _ _ _ _)
  repeat refine AW.seq ?_
  refine AW.block ?_
  refine AW.loop (fun i : Nat => i ≤ xs.length ∧ ∀ j, j < i → ∀ x, xs[j]? = some x → p x = false) (fun i : Nat => mkS [(0, .sl .fro (avs xs)), (1, .fn g caps), (7, .int .i64 xs.length), (8, .int .i64 i)] [] 0) (fun i => xs.length - i) 0 ⟨by omega, fun j hj => absurd hj (by omega)⟩ ?_ ?_
  · refine Fit.mk _ _ _ (by simp [conv2, newEmp, convs_refl, convs, conv]) (by simp [heapFit, newEmp, conv2s, conv2, convs_refl, convs, conv]) (by intro q hq; first | (simp at hq; done) | (simp at hq; omega) | (simp at hq; simp; omega))
  · rintro i ⟨hi, hno⟩
    repeat refine AW.seq ?_
    refine AW.reg ?_
    by_cases hlt : i < xs.length
    · obtain ⟨x, hx⟩ : ∃ x, xs[i]? = some x := ⟨_, List.getElem?_eq_getElem hlt⟩
      have he := elem_map (f := Val.av) hx
      rw [← vals_map] at he
      have hxm : x ∈ xs := List.mem_of_getElem? hx
      have hpx' := hp x hxm
      obtain ⟨xk, xn, xt, xi, xl, hxe⟩ : ∃ xk xn xt xi xl, x.av = .agg [.int .i64 xk, .int .i64 xn, .str xt, .sl .fro (avs xi), .sl .fro (List.map .str xl)] := by cases x; exact ⟨_, _, _, _, _, rfl⟩
      rw [hxe] at he hpx'
      have hF := hlt
      repeat ((with_reducible show evIs _ (_ :: _) _ _); first | refine wQ ?_ | refine wF ?_ | refine wG ?_ | refine wT ?_ | refine wM ?_ | refine wS ?_ | refine wP ?_)
      clear hF
      repeat refine evDone ?_
      try (show AW _ _ _ _ _)
      repeat refine AW.seq ?_
      refine AW.condT (by simp []) (by simp []) ?_
      refine AW.skip ?_
      show AW _ _ _ _ _
      refine AW.seq (AW.block ?_)
      repeat refine AW.seq ?_
      refine AW.reg ?_
      have hF := hlt
      repeat ((with_reducible show evIs _ (_ :: _) _ _); first | refine wQ ?_ | refine wF ?_ | refine wG ?_ | refine wT ?_ | refine wM ?_ | refine wS ?_ | refine wP ?_)
      clear hF
      repeat refine evDone ?_
      try (show AW _ _ _ _ _)
      repeat refine AW.seq ?_
      refine AW.reg ?_
      have hF := And.intro (hlt) (he)
      repeat ((with_reducible show evIs _ (_ :: _) _ _); first | refine wQ ?_ | refine wF ?_ | refine wG ?_ | refine wT ?_ | refine wM ?_ | refine wS ?_ | refine wP ?_)
      clear hF
      repeat refine evDone ?_
      try (show AW _ _ _ _ _)
      have hF := And.intro (hcap) (hok)
      refine wV (hA := hpx') ?_
      clear hF
      have hF := True.intro
      repeat ((with_reducible show evIs _ (_ :: _) _ _); first | refine wQ ?_ | refine wF ?_ | refine wG ?_ | refine wT ?_ | refine wM ?_ | refine wS ?_ | refine wP ?_)
      clear hF
      repeat refine evDone ?_
      try (show AW _ _ _ _ _)
      cases hpx : p x
      · repeat refine AW.seq ?_
        refine AW.condF (by simp [hpx]) (by simp [hpx]) ?_
        refine AW.skip ?_
        show AW _ _ _ _ _
        refine AW.reg ?_
        have hw : IntKind.i64.wrap ((i : Int) + 1) = (i : Int) + 1 := i64_in _ ⟨by omega, by omega⟩
        have hF := hw
        repeat ((with_reducible show evIs _ (_ :: _) _ _); first | refine wQ ?_ | refine wF ?_ | refine wG ?_ | refine wT ?_ | refine wM ?_ | refine wS ?_ | refine wP ?_)
        clear hF
        repeat refine evDone ?_
        try (show AW _ _ _ _ _)
        refine ⟨i + 1, ⟨by omega, no_step hno hx hpx⟩, by omega, ?_⟩
        refine Fit.mk _ _ _ (by simp [hw, conv2, newEmp, convs_refl, convs, conv]) (by simp [hw, heapFit, newEmp, conv2s, conv2, convs_refl, convs, conv]) (by intro q hq; first | (simp at hq; done) | (simp at hq; omega) | (simp at hq; simp; omega))
      · repeat refine AW.seq ?_
        refine AW.condT (by simp [hpx]) (by simp [hpx]) ?_
        repeat refine AW.seq ?_
        refine AW.reg ?_
        have hF := True.intro
        repeat ((with_reducible show evIs _ (_ :: _) _ _); first | refine wQ ?_ | refine wF ?_ | refine wG ?_ | refine wT ?_ | refine wM ?_ | refine wS ?_ | refine wP ?_)
        clear hF
        repeat refine evDone ?_
        try (show AW _ _ _ _ _)
        refine AW.ret (retI rfl ?_)
        simp [idx, find_at hno hx hpx, a113_res, resOk, resP, resV, ARes.op, R2s, R2, R1s, R1, closeOk, closeV]
    · have hlt2 : ¬ (i : Int) < xs.length := by omega
      have hF := And.intro (hlt) (hlt2)
      repeat ((with_reducible show evIs _ (_ :: _) _ _); first | refine wQ ?_ | refine wF ?_ | refine wG ?_ | refine wT ?_ | refine wM ?_ | refine wS ?_ | refine wP ?_)
      clear hF
      repeat refine evDone ?_
      try (show AW _ _ _ _ _)
      repeat refine AW.seq ?_
      refine AW.condF (by simp []) (by simp []) ?_
      refine AW.exit ?_
      show AW _ _ _ _ _
      repeat refine AW.seq ?_
      refine AW.reg ?_
      have hF := True.intro
      repeat ((with_reducible show evIs _ (_ :: _) _ _); first | refine wQ ?_ | refine wF ?_ | refine wG ?_ | refine wT ?_ | refine wM ?_ | refine wS ?_ | refine wP ?_)
      clear hF
      repeat refine evDone ?_
      try (show AW _ _ _ _ _)
      refine AW.ret (retI rfl ?_)
      simp [idx, find_none (fun j hj => hno j (by omega)), a113_res, resOk, resP, resV, ARes.op, R2s, R2, R1s, R1, closeOk, closeV]
theorem f87 (xs : List Val) (hlen : xs.length ≤ 9223372036854775807) (g : Nat) (caps : List AV) (p : Val → Bool) (hp : ∀ x ∈ xs, ACall Try.prog g (x.av :: caps) (· = .bool (p x))) (hcap : ∀ h, caps.map (fzA h) = caps) (hok : okAs noF noF caps) :
    ACall Try.prog 87 [.sl .fro (avs xs), .fn g caps] (· = .bool (xs.any p)) := by
  have h := f113 xs hlen g caps p hp hcap hok
  have hcap' : ∀ fh fq, caps.map (mapA fh fq) = caps → True := fun _ _ _ => trivial
  have hi := idx_any xs p
  refine a87_of (by simp) ?_
  repeat refine AW.seq ?_
  refine AW.reg ?_
  have hF := True.intro
  repeat ((with_reducible show evIs _ (_ :: _) _ _); first | refine wQ ?_ | refine wF ?_ | refine wG ?_ | refine wT ?_ | refine wM ?_ | refine wS ?_ | refine wP ?_)
  clear hF
  repeat refine evDone ?_
  try (show AW _ _ _ _ _)
  repeat refine AW.seq ?_
  refine AW.reg ?_
  have hF := True.intro
  repeat ((with_reducible show evIs _ (_ :: _) _ _); first | refine wQ ?_ | refine wF ?_ | refine wG ?_ | refine wT ?_ | refine wM ?_ | refine wS ?_ | refine wP ?_)
  clear hF
  repeat refine evDone ?_
  try (show AW _ _ _ _ _)
  have hF := And.intro (hcap) (hok)
  refine wC (hA := h) ?_
  clear hF
  have hF := True.intro
  repeat ((with_reducible show evIs _ (_ :: _) _ _); first | refine wQ ?_ | refine wF ?_ | refine wG ?_ | refine wT ?_ | refine wM ?_ | refine wS ?_ | refine wP ?_)
  clear hF
  repeat refine evDone ?_
  try (show AW _ _ _ _ _)
  refine AW.ret (retI rfl ?_)
  simp [hi, a87_res, resOk, resP, resV, ARes.op, R2s, R2, R1s, R1, closeOk, closeV]
theorem f137 (xs : List ByteArray) (hlen : xs.length ≤ 9223372036854775807) (g : Nat) (caps : List AV) (p : ByteArray → Bool) (hp : ∀ x ∈ xs, ACall Try.prog g (AV.str x :: caps) (· = .bool (p x))) (hcap : ∀ h, caps.map (fzA h) = caps) (hok : okAs noF noF caps) :
    ACall Try.prog 137 [.sl .fro (xs.map .str), .fn g caps] (· = .int .i64 (idx xs p)) := by
  refine a137_of (by simp) ?_
  repeat refine AW.seq ?_
  refine AW.reg ?_
  have hF := True.intro
  repeat ((with_reducible show evIs _ (_ :: _) _ _); first | refine wQ ?_ | refine wF ?_ | refine wG ?_ | refine wT ?_ | refine wM ?_ | refine wS ?_ | refine wP ?_)
  clear hF
  repeat refine evDone ?_
  try (show AW _ _ _ _ _)
  repeat refine AW.seq ?_
  refine AW.reg ?_
  have hF := True.intro
  repeat ((with_reducible show evIs _ (_ :: _) _ _); first | refine wQ ?_ | refine wF ?_ | refine wG ?_ | refine wT ?_ | refine wM ?_ | refine wS ?_ | refine wP ?_)
  clear hF
  repeat refine evDone ?_
  try (show AW _ _ _ _ _)
  repeat refine AW.seq ?_
  refine AW.block ?_
  refine AW.loop (fun i : Nat => i ≤ xs.length ∧ ∀ j, j < i → ∀ x, xs[j]? = some x → p x = false) (fun i : Nat => mkS [(0, .sl .fro (xs.map .str)), (1, .fn g caps), (7, .int .i64 xs.length), (8, .int .i64 i)] [] 0) (fun i => xs.length - i) 0 ⟨by omega, fun j hj => absurd hj (by omega)⟩ ?_ ?_
  · refine Fit.mk _ _ _ (by simp [conv2, newEmp, convs_refl, convs, conv]) (by simp [heapFit, newEmp, conv2s, conv2, convs_refl, convs, conv]) (by intro q hq; first | (simp at hq; done) | (simp at hq; omega) | (simp at hq; simp; omega))
  · rintro i ⟨hi, hno⟩
    repeat refine AW.seq ?_
    refine AW.reg ?_
    by_cases hlt : i < xs.length
    · obtain ⟨x, hx⟩ : ∃ x, xs[i]? = some x := ⟨_, List.getElem?_eq_getElem hlt⟩
      have he := elem_map (f := AV.str) hx
      have hxm : x ∈ xs := List.mem_of_getElem? hx
      have hpx' := hp x hxm
      
      have hF := hlt
      repeat ((with_reducible show evIs _ (_ :: _) _ _); first | refine wQ ?_ | refine wF ?_ | refine wG ?_ | refine wT ?_ | refine wM ?_ | refine wS ?_ | refine wP ?_)
      clear hF
      repeat refine evDone ?_
      try (show AW _ _ _ _ _)
      repeat refine AW.seq ?_
      refine AW.condT (by simp []) (by simp []) ?_
      refine AW.skip ?_
      show AW _ _ _ _ _
      refine AW.seq (AW.block ?_)
      repeat refine AW.seq ?_
      refine AW.reg ?_
      have hF := hlt
      repeat ((with_reducible show evIs _ (_ :: _) _ _); first | refine wQ ?_ | refine wF ?_ | refine wG ?_ | refine wT ?_ | refine wM ?_ | refine wS ?_ | refine wP ?_)
      clear hF
      repeat refine evDone ?_
      try (show AW _ _ _ _ _)
      repeat refine AW.seq ?_
      refine AW.reg ?_
      have hF := And.intro (hlt) (he)
      repeat ((with_reducible show evIs _ (_ :: _) _ _); first | refine wQ ?_ | refine wF ?_ | refine wG ?_ | refine wT ?_ | refine wM ?_ | refine wS ?_ | refine wP ?_)
      clear hF
      repeat refine evDone ?_
      try (show AW _ _ _ _ _)
      have hF := And.intro (hcap) (hok)
      refine wV (hA := hpx') ?_
      clear hF
      have hF := True.intro
      repeat ((with_reducible show evIs _ (_ :: _) _ _); first | refine wQ ?_ | refine wF ?_ | refine wG ?_ | refine wT ?_ | refine wM ?_ | refine wS ?_ | refine wP ?_)
      clear hF
      repeat refine evDone ?_
      try (show AW _ _ _ _ _)
      cases hpx : p x
      · repeat refine AW.seq ?_
        refine AW.condF (by simp [hpx]) (by simp [hpx]) ?_
        refine AW.skip ?_
        show AW _ _ _ _ _
        refine AW.reg ?_
        have hw : IntKind.i64.wrap ((i : Int) + 1) = (i : Int) + 1 := i64_in _ ⟨by omega, by omega⟩
        have hF := hw
        repeat ((with_reducible show evIs _ (_ :: _) _ _); first | refine wQ ?_ | refine wF ?_ | refine wG ?_ | refine wT ?_ | refine wM ?_ | refine wS ?_ | refine wP ?_)
        clear hF
        repeat refine evDone ?_
        try (show AW _ _ _ _ _)
        refine ⟨i + 1, ⟨by omega, no_step hno hx hpx⟩, by omega, ?_⟩
        refine Fit.mk _ _ _ (by simp [hw, conv2, newEmp, convs_refl, convs, conv]) (by simp [hw, heapFit, newEmp, conv2s, conv2, convs_refl, convs, conv]) (by intro q hq; first | (simp at hq; done) | (simp at hq; omega) | (simp at hq; simp; omega))
      · repeat refine AW.seq ?_
        refine AW.condT (by simp [hpx]) (by simp [hpx]) ?_
        repeat refine AW.seq ?_
        refine AW.reg ?_
        have hF := True.intro
        repeat ((with_reducible show evIs _ (_ :: _) _ _); first | refine wQ ?_ | refine wF ?_ | refine wG ?_ | refine wT ?_ | refine wM ?_ | refine wS ?_ | refine wP ?_)
        clear hF
        repeat refine evDone ?_
        try (show AW _ _ _ _ _)
        refine AW.ret (retI rfl ?_)
        simp [idx, find_at hno hx hpx, a137_res, resOk, resP, resV, ARes.op, R2s, R2, R1s, R1, closeOk, closeV]
    · have hlt2 : ¬ (i : Int) < xs.length := by omega
      have hF := And.intro (hlt) (hlt2)
      repeat ((with_reducible show evIs _ (_ :: _) _ _); first | refine wQ ?_ | refine wF ?_ | refine wG ?_ | refine wT ?_ | refine wM ?_ | refine wS ?_ | refine wP ?_)
      clear hF
      repeat refine evDone ?_
      try (show AW _ _ _ _ _)
      repeat refine AW.seq ?_
      refine AW.condF (by simp []) (by simp []) ?_
      refine AW.exit ?_
      show AW _ _ _ _ _
      repeat refine AW.seq ?_
      refine AW.reg ?_
      have hF := True.intro
      repeat ((with_reducible show evIs _ (_ :: _) _ _); first | refine wQ ?_ | refine wF ?_ | refine wG ?_ | refine wT ?_ | refine wM ?_ | refine wS ?_ | refine wP ?_)
      clear hF
      repeat refine evDone ?_
      try (show AW _ _ _ _ _)
      refine AW.ret (retI rfl ?_)
      simp [idx, find_none (fun j hj => hno j (by omega)), a137_res, resOk, resP, resV, ARes.op, R2s, R2, R1s, R1, closeOk, closeV]
theorem f115 (xs : List ByteArray) (hlen : xs.length ≤ 9223372036854775807) (g : Nat) (caps : List AV) (p : ByteArray → Bool) (hp : ∀ x ∈ xs, ACall Try.prog g (AV.str x :: caps) (· = .bool (p x))) (hcap : ∀ h, caps.map (fzA h) = caps) (hok : okAs noF noF caps) :
    ACall Try.prog 115 [.sl .fro (xs.map .str), .fn g caps] (· = .bool (xs.any p)) := by
  have h := f137 xs hlen g caps p hp hcap hok
  have hcap' : ∀ fh fq, caps.map (mapA fh fq) = caps → True := fun _ _ _ => trivial
  have hi := idx_any xs p
  refine a115_of (by simp) ?_
  repeat refine AW.seq ?_
  refine AW.reg ?_
  have hF := True.intro
  repeat ((with_reducible show evIs _ (_ :: _) _ _); first | refine wQ ?_ | refine wF ?_ | refine wG ?_ | refine wT ?_ | refine wM ?_ | refine wS ?_ | refine wP ?_)
  clear hF
  repeat refine evDone ?_
  try (show AW _ _ _ _ _)
  repeat refine AW.seq ?_
  refine AW.reg ?_
  have hF := True.intro
  repeat ((with_reducible show evIs _ (_ :: _) _ _); first | refine wQ ?_ | refine wF ?_ | refine wG ?_ | refine wT ?_ | refine wM ?_ | refine wS ?_ | refine wP ?_)
  clear hF
  repeat refine evDone ?_
  try (show AW _ _ _ _ _)
  have hF := And.intro (hcap) (hok)
  refine wC (hA := h) ?_
  clear hF
  have hF := True.intro
  repeat ((with_reducible show evIs _ (_ :: _) _ _); first | refine wQ ?_ | refine wF ?_ | refine wG ?_ | refine wT ?_ | refine wM ?_ | refine wS ?_ | refine wP ?_)
  clear hF
  repeat refine evDone ?_
  try (show AW _ _ _ _ _)
  refine AW.ret (retI rfl ?_)
  simp [hi, a115_res, resOk, resP, resV, ARes.op, R2s, R2, R1s, R1, closeOk, closeV]
end Go.Proofs.Ytdnpnokplfemfaa
