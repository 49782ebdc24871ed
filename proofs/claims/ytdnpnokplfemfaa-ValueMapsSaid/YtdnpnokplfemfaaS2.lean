/- Contracts of chapter 2's functions, fifth part: well-formed values, the reference's. -/
import Derived.Test.YtdnpnokplfemfaaS1

set_option linter.unusedSimpArgs false
set_option linter.unusedVariables false
set_option maxHeartbeats 8000000
namespace Go.Proofs.Ytdnpnokplfemfaa
open Go Go.Amb Go.IntWalk

theorem f15_step (m : Nat) (ih : ∀ v : Val, v.sz < m → v.okv → ACall Try.prog 15 [v.av] (· = .bool (wfV true v))) (v : Val) (hm : v.sz ≤ m) (hok : v.okv) : ACall Try.prog 15 [v.av] (· = .bool (wfV true v)) := by
  obtain ⟨k, n, t, is, ks⟩ := v
  simp only [Val.av, Val.sz, Val.okv] at hm hok ⊢
  obtain ⟨ho1, ho2, ho3⟩ := hok
  have h60 := f60 ks (by omega)
  obtain ⟨R, hR⟩ : ∃ R, R = wfV true (.mk k n t is ks) := ⟨_, rfl⟩
  rw [← hR]
  refine a15_of (by simp) ?_
  repeat refine AW.seq ?_
  refine AW.reg ?_
  have hF := True.intro
  repeat ((with_reducible show evIs _ (_ :: _) _ _); first | refine wQ ?_ | refine wF ?_ | refine wG ?_ | refine wT ?_ | refine wM ?_ | refine wS ?_ | refine wP ?_)
  clear hF
  repeat refine evDone ?_
  try (show AW _ _ _ _ _)
  repeat refine AW.seq ?_
  refine AW.reg ?_
  have hF := True.intro
  repeat ((with_reducible show evIs _ (_ :: _) _ _); first | refine wQ ?_ | refine wF ?_ | refine wG ?_ | refine wT ?_ | refine wM ?_ | refine wS ?_ | refine wP ?_)
  clear hF
  repeat refine evDone ?_
  try (show AW _ _ _ _ _)
  repeat refine AW.seq ?_
  refine AW.block ?_
  refine AW.loop (fun i : Nat => i ≤ is.length ∧ wfsV true (is.take i) = true) (fun i => mkS [(1, .ptr 0 0 0), (3, .int .i64 i)] [(0, ⟨5, true, [.agg [.int .i64 k, .int .i64 n, .str t, .sl .fro (avs is), .sl .fro (ks.map .str)]]⟩)] 60) (fun i => is.length - i) 0 ⟨by simp, by simp [wfsV]⟩ ?_ ?_
  · refine Fit.mk _ _ _ (by simp [conv2, newEmp, convs_refl, convs, conv]) (by simp [heapFit, newEmp, conv2s, conv2, convs_refl, convs, conv]) (by intro q hq; first | (simp at hq; done) | (simp at hq; omega) | (simp at hq; simp; omega))
  rintro i ⟨hi, hno⟩
  repeat refine AW.seq ?_
  refine AW.reg ?_
  by_cases hlt : i < is.length
  · have hF := hlt
    repeat ((with_reducible show evIs _ (_ :: _) _ _); first | refine wQ ?_ | refine wF ?_ | refine wG ?_ | refine wT ?_ | refine wM ?_ | refine wS ?_ | refine wP ?_)
    clear hF
    repeat refine evDone ?_
    try (show AW _ _ _ _ _)
    repeat refine AW.seq ?_
    refine AW.condT (by simp []) (by simp []) ?_
    refine AW.skip ?_
    show AW _ _ _ _ _
    refine AW.seq (AW.block ?_)
    obtain ⟨x, hx⟩ : ∃ x, is[i]? = some x := ⟨_, List.getElem?_eq_getElem hlt⟩
    have he := elem_map (f := Val.av) hx
    rw [← vals_map] at he
    have hxm := List.mem_of_getElem? hx
    have hcall := ih x (by have := szs_mem hxm; omega) (okvs_mem ho3 hxm)
    cases hwx : wfV true x with
    | true =>
      have hno1 := wfsV_step hno hx hwx
      rw [hwx] at hcall
      obtain ⟨xk, xn, xt, xi, xs⟩ := x
      simp only [Val.av] at he hcall
      repeat refine AW.seq ?_
      refine AW.reg ?_
      have hF := And.intro (hlt) (he)
      repeat ((with_reducible show evIs _ (_ :: _) _ _); first | refine wQ ?_ | refine wF ?_ | refine wG ?_ | refine wT ?_ | refine wM ?_ | refine wS ?_ | refine wP ?_)
      clear hF
      repeat refine evDone ?_
      try (show AW _ _ _ _ _)
      have hF := True.intro
      refine wC (hA := hcall) ?_
      clear hF
      have hF := True.intro
      repeat ((with_reducible show evIs _ (_ :: _) _ _); first | refine wQ ?_ | refine wF ?_ | refine wG ?_ | refine wT ?_ | refine wM ?_ | refine wS ?_ | refine wP ?_)
      clear hF
      repeat refine evDone ?_
      try (show AW _ _ _ _ _)
      repeat refine AW.seq ?_
      refine AW.condF (by simp []) (by simp []) ?_
      refine AW.skip ?_
      show AW _ _ _ _ _
      refine AW.reg ?_
      have hw : IntKind.i64.wrap ((i : Int) + 1) = (i : Int) + 1 := i64_in _ ⟨by omega, by omega⟩
      have hF := hw
      repeat ((with_reducible show evIs _ (_ :: _) _ _); first | refine wQ ?_ | refine wF ?_ | refine wG ?_ | refine wT ?_ | refine wM ?_ | refine wS ?_ | refine wP ?_)
      clear hF
      repeat refine evDone ?_
      try (show AW _ _ _ _ _)
      refine ⟨i + 1, ⟨by omega, hno1⟩, by omega, ?_⟩
      refine Fit.mk _ _ _ (by simp [hw, conv2, newEmp, convs_refl, convs, conv]) (by simp [hw, heapFit, newEmp, conv2s, conv2, convs_refl, convs, conv]) (by intro q hq; first | (simp at hq; done) | (simp at hq; omega) | (simp at hq; simp; omega))
    | false =>
      have hws : wfsV true is = false := wfsV_at hx hwx
      rw [hwx] at hcall
      obtain ⟨xk, xn, xt, xi, xs⟩ := x
      simp only [Val.av] at he hcall
      repeat refine AW.seq ?_
      refine AW.reg ?_
      have hF := And.intro (hlt) (he)
      repeat ((with_reducible show evIs _ (_ :: _) _ _); first | refine wQ ?_ | refine wF ?_ | refine wG ?_ | refine wT ?_ | refine wM ?_ | refine wS ?_ | refine wP ?_)
      clear hF
      repeat refine evDone ?_
      try (show AW _ _ _ _ _)
      have hF := True.intro
      refine wC (hA := hcall) ?_
      clear hF
      have hF := True.intro
      repeat ((with_reducible show evIs _ (_ :: _) _ _); first | refine wQ ?_ | refine wF ?_ | refine wG ?_ | refine wT ?_ | refine wM ?_ | refine wS ?_ | refine wP ?_)
      clear hF
      repeat refine evDone ?_
      try (show AW _ _ _ _ _)
      repeat refine AW.seq ?_
      refine AW.condT (by simp []) (by simp []) ?_
      repeat refine AW.seq ?_
      refine AW.reg ?_
      have hF := True.intro
      repeat ((with_reducible show evIs _ (_ :: _) _ _); first | refine wQ ?_ | refine wF ?_ | refine wG ?_ | refine wT ?_ | refine wM ?_ | refine wS ?_ | refine wP ?_)
      clear hF
      repeat refine evDone ?_
      try (show AW _ _ _ _ _)
      have hfin : R = false := by rw [hR]; simp [wfV, hws]
      rw [hfin]
      refine AW.ret (retI rfl ?_)
      simp [a15_res, resOk, resP, resV, ARes.op, R2s, R2, R1s, R1, closeOk, closeV]
  · have hlt2 : ¬ (i : Int) < is.length := by omega
    have hws : wfsV true is = true := by rwa [List.take_of_length_le (by omega)] at hno
    have hF := And.intro (hlt) (hlt2)
    repeat ((with_reducible show evIs _ (_ :: _) _ _); first | refine wQ ?_ | refine wF ?_ | refine wG ?_ | refine wT ?_ | refine wM ?_ | refine wS ?_ | refine wP ?_)
    clear hF
    repeat refine evDone ?_
    try (show AW _ _ _ _ _)
    repeat refine AW.seq ?_
    refine AW.condF (by simp []) (by simp []) ?_
    refine AW.exit ?_
    show AW _ _ _ _ _
    clear hno hlt hlt2 hi
    repeat refine AW.seq ?_
    refine AW.reg ?_
    have hF := True.intro
    repeat ((with_reducible show evIs _ (_ :: _) _ _); first | refine wQ ?_ | refine wF ?_ | refine wG ?_ | refine wT ?_ | refine wM ?_ | refine wS ?_ | refine wP ?_)
    clear hF
    repeat refine evDone ?_
    try (show AW _ _ _ _ _)
    repeat refine AW.seq ?_
    refine AW.block ?_
    repeat refine AW.seq ?_
    refine AW.reg ?_
    by_cases hk0 : k = 0
    case pos =>
      subst hk0
      have hF := True.intro
      repeat ((with_reducible show evIs _ (_ :: _) _ _); first | refine wQ ?_ | refine wF ?_ | refine wG ?_ | refine wT ?_ | refine wM ?_ | refine wS ?_ | refine wP ?_)
      clear hF
      repeat refine evDone ?_
      try (show AW _ _ _ _ _)
      repeat refine AW.seq ?_
      refine AW.condT (by simp []) (by simp []) ?_
      repeat refine AW.seq ?_
      refine AW.reg ?_
      by_cases hN : n = 0
      case neg =>
        have hF := hN
        repeat ((with_reducible show evIs _ (_ :: _) _ _); first | refine wQ ?_ | refine wF ?_ | refine wG ?_ | refine wT ?_ | refine wM ?_ | refine wS ?_ | refine wP ?_)
        clear hF
        repeat refine evDone ?_
        try (show AW _ _ _ _ _)
        have hfin : R = false := by rw [hR]; simp [wfV, wfN, wfsV, hN, hws]
        rw [hfin]
        refine AW.ret (retI rfl ?_)
        simp [hN, a15_res, resOk, resP, resV, ARes.op, R2s, R2, R1s, R1, closeOk, closeV]
      subst hN
      by_cases hT : t = ⟨#[]⟩
      case neg =>
        have hF := hT
        repeat ((with_reducible show evIs _ (_ :: _) _ _); first | refine wQ ?_ | refine wF ?_ | refine wG ?_ | refine wT ?_ | refine wM ?_ | refine wS ?_ | refine wP ?_)
        clear hF
        repeat refine evDone ?_
        try (show AW _ _ _ _ _)
        have hfin : R = false := by rw [hR]; simp [wfV, wfN, wfsV, hT, hws]
        rw [hfin]
        refine AW.ret (retI rfl ?_)
        simp [hT, a15_res, resOk, resP, resV, ARes.op, R2s, R2, R1s, R1, closeOk, closeV]
      subst hT
      by_cases hI : is = []
      case neg =>
        have hIl : ¬ (is.length : Int) = 0 := by have := List.length_pos_iff.2 hI; omega
        have hIp : (0 : Int) < (is.length : Int) := by have := List.length_pos_iff.2 hI; omega
        have hIq : 0 < is.length := List.length_pos_iff.2 hI
        have hF := And.intro (hI) (And.intro (hIl) (And.intro (hIp) (hIq)))
        repeat ((with_reducible show evIs _ (_ :: _) _ _); first | refine wQ ?_ | refine wF ?_ | refine wG ?_ | refine wT ?_ | refine wM ?_ | refine wS ?_ | refine wP ?_)
        clear hF
        repeat refine evDone ?_
        try (show AW _ _ _ _ _)
        have hfin : R = false := by rw [hR]; simp [wfV, wfN, wfsV, hI, hws]
        rw [hfin]
        refine AW.ret (retI rfl ?_)
        simp [hI, hIl, hIp, hIq, a15_res, resOk, resP, resV, ARes.op, R2s, R2, R1s, R1, closeOk, closeV]
      subst hI
      by_cases hK : ks = []
      case neg =>
        have hKl : ¬ (ks.length : Int) = 0 := by have := List.length_pos_iff.2 hK; omega
        have hKp : (0 : Int) < (ks.length : Int) := by have := List.length_pos_iff.2 hK; omega
        have hKq : 0 < ks.length := List.length_pos_iff.2 hK
        have hF := And.intro (hK) (And.intro (hKl) (And.intro (hKp) (hKq)))
        repeat ((with_reducible show evIs _ (_ :: _) _ _); first | refine wQ ?_ | refine wF ?_ | refine wG ?_ | refine wT ?_ | refine wM ?_ | refine wS ?_ | refine wP ?_)
        clear hF
        repeat refine evDone ?_
        try (show AW _ _ _ _ _)
        have hfin : R = false := by rw [hR]; simp [wfV, wfN, wfsV, hK, hws]
        rw [hfin]
        refine AW.ret (retI rfl ?_)
        simp [hK, hKl, hKp, hKq, a15_res, resOk, resP, resV, ARes.op, R2s, R2, R1s, R1, closeOk, closeV]
      subst hK
      have hF := True.intro
      repeat ((with_reducible show evIs _ (_ :: _) _ _); first | refine wQ ?_ | refine wF ?_ | refine wG ?_ | refine wT ?_ | refine wM ?_ | refine wS ?_ | refine wP ?_)
      clear hF
      repeat refine evDone ?_
      try (show AW _ _ _ _ _)
      have hfin : R = true := by rw [hR]; simp [wfV, wfN, wfsV, hws]
      rw [hfin]
      refine AW.ret (retI rfl ?_)
      simp [a15_res, resOk, resP, resV, ARes.op, R2s, R2, R1s, R1, closeOk, closeV]
    have hF := hk0
    repeat ((with_reducible show evIs _ (_ :: _) _ _); first | refine wQ ?_ | refine wF ?_ | refine wG ?_ | refine wT ?_ | refine wM ?_ | refine wS ?_ | refine wP ?_)
    clear hF
    repeat refine evDone ?_
    try (show AW _ _ _ _ _)
    repeat refine AW.seq ?_
    refine AW.condF (by simp [hk0]) (by simp [hk0]) ?_
    repeat refine AW.seq ?_
    refine AW.reg ?_
    by_cases hk1 : k = 1
    case pos =>
      subst hk1
      have hF := True.intro
      repeat ((with_reducible show evIs _ (_ :: _) _ _); first | refine wQ ?_ | refine wF ?_ | refine wG ?_ | refine wT ?_ | refine wM ?_ | refine wS ?_ | refine wP ?_)
      clear hF
      repeat refine evDone ?_
      try (show AW _ _ _ _ _)
      repeat refine AW.seq ?_
      refine AW.condT (by simp []) (by simp []) ?_
      repeat refine AW.seq ?_
      refine AW.reg ?_
      by_cases hN : n = 0
      case pos =>
        subst hN
        by_cases hT : t = ⟨#[]⟩
        case neg =>
          have hF := hT
          repeat ((with_reducible show evIs _ (_ :: _) _ _); first | refine wQ ?_ | refine wF ?_ | refine wG ?_ | refine wT ?_ | refine wM ?_ | refine wS ?_ | refine wP ?_)
          clear hF
          repeat refine evDone ?_
          try (show AW _ _ _ _ _)
          have hfin : R = false := by rw [hR]; simp [wfV, wfN, wfsV, hT, hws]
          rw [hfin]
          refine AW.ret (retI rfl ?_)
          simp [hT, a15_res, resOk, resP, resV, ARes.op, R2s, R2, R1s, R1, closeOk, closeV]
        subst hT
        by_cases hI : is = []
        case neg =>
          have hIl : ¬ (is.length : Int) = 0 := by have := List.length_pos_iff.2 hI; omega
          have hIp : (0 : Int) < (is.length : Int) := by have := List.length_pos_iff.2 hI; omega
          have hIq : 0 < is.length := List.length_pos_iff.2 hI
          have hF := And.intro (hI) (And.intro (hIl) (And.intro (hIp) (hIq)))
          repeat ((with_reducible show evIs _ (_ :: _) _ _); first | refine wQ ?_ | refine wF ?_ | refine wG ?_ | refine wT ?_ | refine wM ?_ | refine wS ?_ | refine wP ?_)
          clear hF
          repeat refine evDone ?_
          try (show AW _ _ _ _ _)
          have hfin : R = false := by rw [hR]; simp [wfV, wfN, wfsV, hI, hws]
          rw [hfin]
          refine AW.ret (retI rfl ?_)
          simp [hI, hIl, hIp, hIq, a15_res, resOk, resP, resV, ARes.op, R2s, R2, R1s, R1, closeOk, closeV]
        subst hI
        by_cases hK : ks = []
        case neg =>
          have hKl : ¬ (ks.length : Int) = 0 := by have := List.length_pos_iff.2 hK; omega
          have hKp : (0 : Int) < (ks.length : Int) := by have := List.length_pos_iff.2 hK; omega
          have hKq : 0 < ks.length := List.length_pos_iff.2 hK
          have hF := And.intro (hK) (And.intro (hKl) (And.intro (hKp) (hKq)))
          repeat ((with_reducible show evIs _ (_ :: _) _ _); first | refine wQ ?_ | refine wF ?_ | refine wG ?_ | refine wT ?_ | refine wM ?_ | refine wS ?_ | refine wP ?_)
          clear hF
          repeat refine evDone ?_
          try (show AW _ _ _ _ _)
          have hfin : R = false := by rw [hR]; simp [wfV, wfN, wfsV, hK, hws]
          rw [hfin]
          refine AW.ret (retI rfl ?_)
          simp [hK, hKl, hKp, hKq, a15_res, resOk, resP, resV, ARes.op, R2s, R2, R1s, R1, closeOk, closeV]
        subst hK
        have hF := True.intro
        repeat ((with_reducible show evIs _ (_ :: _) _ _); first | refine wQ ?_ | refine wF ?_ | refine wG ?_ | refine wT ?_ | refine wM ?_ | refine wS ?_ | refine wP ?_)
        clear hF
        repeat refine evDone ?_
        try (show AW _ _ _ _ _)
        have hfin : R = true := by rw [hR]; simp [wfV, wfN, wfsV, hws]
        rw [hfin]
        refine AW.ret (retI rfl ?_)
        simp [a15_res, resOk, resP, resV, ARes.op, R2s, R2, R1s, R1, closeOk, closeV]
      by_cases hN1 : n = 1
      case pos =>
        subst hN1
        by_cases hT : t = ⟨#[]⟩
        case neg =>
          have hF := hT
          repeat ((with_reducible show evIs _ (_ :: _) _ _); first | refine wQ ?_ | refine wF ?_ | refine wG ?_ | refine wT ?_ | refine wM ?_ | refine wS ?_ | refine wP ?_)
          clear hF
          repeat refine evDone ?_
          try (show AW _ _ _ _ _)
          have hfin : R = false := by rw [hR]; simp [wfV, wfN, wfsV, hT, hws]
          rw [hfin]
          refine AW.ret (retI rfl ?_)
          simp [hT, a15_res, resOk, resP, resV, ARes.op, R2s, R2, R1s, R1, closeOk, closeV]
        subst hT
        by_cases hI : is = []
        case neg =>
          have hIl : ¬ (is.length : Int) = 0 := by have := List.length_pos_iff.2 hI; omega
          have hIp : (0 : Int) < (is.length : Int) := by have := List.length_pos_iff.2 hI; omega
          have hIq : 0 < is.length := List.length_pos_iff.2 hI
          have hF := And.intro (hI) (And.intro (hIl) (And.intro (hIp) (hIq)))
          repeat ((with_reducible show evIs _ (_ :: _) _ _); first | refine wQ ?_ | refine wF ?_ | refine wG ?_ | refine wT ?_ | refine wM ?_ | refine wS ?_ | refine wP ?_)
          clear hF
          repeat refine evDone ?_
          try (show AW _ _ _ _ _)
          have hfin : R = false := by rw [hR]; simp [wfV, wfN, wfsV, hI, hws]
          rw [hfin]
          refine AW.ret (retI rfl ?_)
          simp [hI, hIl, hIp, hIq, a15_res, resOk, resP, resV, ARes.op, R2s, R2, R1s, R1, closeOk, closeV]
        subst hI
        by_cases hK : ks = []
        case neg =>
          have hKl : ¬ (ks.length : Int) = 0 := by have := List.length_pos_iff.2 hK; omega
          have hKp : (0 : Int) < (ks.length : Int) := by have := List.length_pos_iff.2 hK; omega
          have hKq : 0 < ks.length := List.length_pos_iff.2 hK
          have hF := And.intro (hK) (And.intro (hKl) (And.intro (hKp) (hKq)))
          repeat ((with_reducible show evIs _ (_ :: _) _ _); first | refine wQ ?_ | refine wF ?_ | refine wG ?_ | refine wT ?_ | refine wM ?_ | refine wS ?_ | refine wP ?_)
          clear hF
          repeat refine evDone ?_
          try (show AW _ _ _ _ _)
          have hfin : R = false := by rw [hR]; simp [wfV, wfN, wfsV, hK, hws]
          rw [hfin]
          refine AW.ret (retI rfl ?_)
          simp [hK, hKl, hKp, hKq, a15_res, resOk, resP, resV, ARes.op, R2s, R2, R1s, R1, closeOk, closeV]
        subst hK
        have hF := True.intro
        repeat ((with_reducible show evIs _ (_ :: _) _ _); first | refine wQ ?_ | refine wF ?_ | refine wG ?_ | refine wT ?_ | refine wM ?_ | refine wS ?_ | refine wP ?_)
        clear hF
        repeat refine evDone ?_
        try (show AW _ _ _ _ _)
        have hfin : R = true := by rw [hR]; simp [wfV, wfN, wfsV, hws]
        rw [hfin]
        refine AW.ret (retI rfl ?_)
        simp [a15_res, resOk, resP, resV, ARes.op, R2s, R2, R1s, R1, closeOk, closeV]
      have hF := And.intro (hN) (hN1)
      repeat ((with_reducible show evIs _ (_ :: _) _ _); first | refine wQ ?_ | refine wF ?_ | refine wG ?_ | refine wT ?_ | refine wM ?_ | refine wS ?_ | refine wP ?_)
      clear hF
      repeat refine evDone ?_
      try (show AW _ _ _ _ _)
      have hfin : R = false := by rw [hR]; simp [wfV, wfN, wfsV, hN, hN1, hws]
      rw [hfin]
      refine AW.ret (retI rfl ?_)
      simp [hN, hN1, a15_res, resOk, resP, resV, ARes.op, R2s, R2, R1s, R1, closeOk, closeV]
    have hF := hk1
    repeat ((with_reducible show evIs _ (_ :: _) _ _); first | refine wQ ?_ | refine wF ?_ | refine wG ?_ | refine wT ?_ | refine wM ?_ | refine wS ?_ | refine wP ?_)
    clear hF
    repeat refine evDone ?_
    try (show AW _ _ _ _ _)
    repeat refine AW.seq ?_
    refine AW.condF (by simp [hk1]) (by simp [hk1]) ?_
    repeat refine AW.seq ?_
    refine AW.reg ?_
    by_cases hk2 : k = 2
    case pos =>
      subst hk2
      have hF := True.intro
      repeat ((with_reducible show evIs _ (_ :: _) _ _); first | refine wQ ?_ | refine wF ?_ | refine wG ?_ | refine wT ?_ | refine wM ?_ | refine wS ?_ | refine wP ?_)
      clear hF
      repeat refine evDone ?_
      try (show AW _ _ _ _ _)
      repeat refine AW.seq ?_
      refine AW.condT (by simp []) (by simp []) ?_
      repeat refine AW.seq ?_
      refine AW.reg ?_
      by_cases hT : t = ⟨#[]⟩
      case neg =>
        have hF := hT
        repeat ((with_reducible show evIs _ (_ :: _) _ _); first | refine wQ ?_ | refine wF ?_ | refine wG ?_ | refine wT ?_ | refine wM ?_ | refine wS ?_ | refine wP ?_)
        clear hF
        repeat refine evDone ?_
        try (show AW _ _ _ _ _)
        have hfin : R = false := by rw [hR]; simp [wfV, wfN, wfsV, hT, hws]
        rw [hfin]
        refine AW.ret (retI rfl ?_)
        simp [hT, a15_res, resOk, resP, resV, ARes.op, R2s, R2, R1s, R1, closeOk, closeV]
      subst hT
      by_cases hI : is = []
      case neg =>
        have hIl : ¬ (is.length : Int) = 0 := by have := List.length_pos_iff.2 hI; omega
        have hIp : (0 : Int) < (is.length : Int) := by have := List.length_pos_iff.2 hI; omega
        have hIq : 0 < is.length := List.length_pos_iff.2 hI
        have hF := And.intro (hI) (And.intro (hIl) (And.intro (hIp) (hIq)))
        repeat ((with_reducible show evIs _ (_ :: _) _ _); first | refine wQ ?_ | refine wF ?_ | refine wG ?_ | refine wT ?_ | refine wM ?_ | refine wS ?_ | refine wP ?_)
        clear hF
        repeat refine evDone ?_
        try (show AW _ _ _ _ _)
        have hfin : R = false := by rw [hR]; simp [wfV, wfN, wfsV, hI, hws]
        rw [hfin]
        refine AW.ret (retI rfl ?_)
        simp [hI, hIl, hIp, hIq, a15_res, resOk, resP, resV, ARes.op, R2s, R2, R1s, R1, closeOk, closeV]
      subst hI
      by_cases hK : ks = []
      case neg =>
        have hKl : ¬ (ks.length : Int) = 0 := by have := List.length_pos_iff.2 hK; omega
        have hKp : (0 : Int) < (ks.length : Int) := by have := List.length_pos_iff.2 hK; omega
        have hKq : 0 < ks.length := List.length_pos_iff.2 hK
        have hF := And.intro (hK) (And.intro (hKl) (And.intro (hKp) (hKq)))
        repeat ((with_reducible show evIs _ (_ :: _) _ _); first | refine wQ ?_ | refine wF ?_ | refine wG ?_ | refine wT ?_ | refine wM ?_ | refine wS ?_ | refine wP ?_)
        clear hF
        repeat refine evDone ?_
        try (show AW _ _ _ _ _)
        have hfin : R = false := by rw [hR]; simp [wfV, wfN, wfsV, hK, hws]
        rw [hfin]
        refine AW.ret (retI rfl ?_)
        simp [hK, hKl, hKp, hKq, a15_res, resOk, resP, resV, ARes.op, R2s, R2, R1s, R1, closeOk, closeV]
      subst hK
      have hF := True.intro
      repeat ((with_reducible show evIs _ (_ :: _) _ _); first | refine wQ ?_ | refine wF ?_ | refine wG ?_ | refine wT ?_ | refine wM ?_ | refine wS ?_ | refine wP ?_)
      clear hF
      repeat refine evDone ?_
      try (show AW _ _ _ _ _)
      have hfin : R = true := by rw [hR]; simp [wfV, wfN, wfsV, hws]
      rw [hfin]
      refine AW.ret (retI rfl ?_)
      simp [a15_res, resOk, resP, resV, ARes.op, R2s, R2, R1s, R1, closeOk, closeV]
    have hF := hk2
    repeat ((with_reducible show evIs _ (_ :: _) _ _); first | refine wQ ?_ | refine wF ?_ | refine wG ?_ | refine wT ?_ | refine wM ?_ | refine wS ?_ | refine wP ?_)
    clear hF
    repeat refine evDone ?_
    try (show AW _ _ _ _ _)
    repeat refine AW.seq ?_
    refine AW.condF (by simp [hk2]) (by simp [hk2]) ?_
    repeat refine AW.seq ?_
    refine AW.reg ?_
    by_cases hk3 : k = 3
    case pos =>
      subst hk3
      have hF := True.intro
      repeat ((with_reducible show evIs _ (_ :: _) _ _); first | refine wQ ?_ | refine wF ?_ | refine wG ?_ | refine wT ?_ | refine wM ?_ | refine wS ?_ | refine wP ?_)
      clear hF
      repeat refine evDone ?_
      try (show AW _ _ _ _ _)
      repeat refine AW.seq ?_
      refine AW.condT (by simp []) (by simp []) ?_
      repeat refine AW.seq ?_
      refine AW.reg ?_
      by_cases hN : n = 0
      case neg =>
        have hF := hN
        repeat ((with_reducible show evIs _ (_ :: _) _ _); first | refine wQ ?_ | refine wF ?_ | refine wG ?_ | refine wT ?_ | refine wM ?_ | refine wS ?_ | refine wP ?_)
        clear hF
        repeat refine evDone ?_
        try (show AW _ _ _ _ _)
        have hfin : R = false := by rw [hR]; simp [wfV, wfN, wfsV, hN, hws]
        rw [hfin]
        refine AW.ret (retI rfl ?_)
        simp [hN, a15_res, resOk, resP, resV, ARes.op, R2s, R2, R1s, R1, closeOk, closeV]
      subst hN
      by_cases hI : is = []
      case neg =>
        have hIl : ¬ (is.length : Int) = 0 := by have := List.length_pos_iff.2 hI; omega
        have hIp : (0 : Int) < (is.length : Int) := by have := List.length_pos_iff.2 hI; omega
        have hIq : 0 < is.length := List.length_pos_iff.2 hI
        have hF := And.intro (hI) (And.intro (hIl) (And.intro (hIp) (hIq)))
        repeat ((with_reducible show evIs _ (_ :: _) _ _); first | refine wQ ?_ | refine wF ?_ | refine wG ?_ | refine wT ?_ | refine wM ?_ | refine wS ?_ | refine wP ?_)
        clear hF
        repeat refine evDone ?_
        try (show AW _ _ _ _ _)
        have hfin : R = false := by rw [hR]; simp [wfV, wfN, wfsV, hI, hws]
        rw [hfin]
        refine AW.ret (retI rfl ?_)
        simp [hI, hIl, hIp, hIq, a15_res, resOk, resP, resV, ARes.op, R2s, R2, R1s, R1, closeOk, closeV]
      subst hI
      by_cases hK : ks = []
      case neg =>
        have hKl : ¬ (ks.length : Int) = 0 := by have := List.length_pos_iff.2 hK; omega
        have hKp : (0 : Int) < (ks.length : Int) := by have := List.length_pos_iff.2 hK; omega
        have hKq : 0 < ks.length := List.length_pos_iff.2 hK
        have hF := And.intro (hK) (And.intro (hKl) (And.intro (hKp) (hKq)))
        repeat ((with_reducible show evIs _ (_ :: _) _ _); first | refine wQ ?_ | refine wF ?_ | refine wG ?_ | refine wT ?_ | refine wM ?_ | refine wS ?_ | refine wP ?_)
        clear hF
        repeat refine evDone ?_
        try (show AW _ _ _ _ _)
        have hfin : R = false := by rw [hR]; simp [wfV, wfN, wfsV, hK, hws]
        rw [hfin]
        refine AW.ret (retI rfl ?_)
        simp [hK, hKl, hKp, hKq, a15_res, resOk, resP, resV, ARes.op, R2s, R2, R1s, R1, closeOk, closeV]
      subst hK
      have hF := True.intro
      repeat ((with_reducible show evIs _ (_ :: _) _ _); first | refine wQ ?_ | refine wF ?_ | refine wG ?_ | refine wT ?_ | refine wM ?_ | refine wS ?_ | refine wP ?_)
      clear hF
      repeat refine evDone ?_
      try (show AW _ _ _ _ _)
      have hfin : R = true := by rw [hR]; simp [wfV, wfN, wfsV, hws]
      rw [hfin]
      refine AW.ret (retI rfl ?_)
      simp [a15_res, resOk, resP, resV, ARes.op, R2s, R2, R1s, R1, closeOk, closeV]
    have hF := hk3
    repeat ((with_reducible show evIs _ (_ :: _) _ _); first | refine wQ ?_ | refine wF ?_ | refine wG ?_ | refine wT ?_ | refine wM ?_ | refine wS ?_ | refine wP ?_)
    clear hF
    repeat refine evDone ?_
    try (show AW _ _ _ _ _)
    repeat refine AW.seq ?_
    refine AW.condF (by simp [hk3]) (by simp [hk3]) ?_
    repeat refine AW.seq ?_
    refine AW.reg ?_
    by_cases hk4 : k = 4
    case pos =>
      subst hk4
      have hF := True.intro
      repeat ((with_reducible show evIs _ (_ :: _) _ _); first | refine wQ ?_ | refine wF ?_ | refine wG ?_ | refine wT ?_ | refine wM ?_ | refine wS ?_ | refine wP ?_)
      clear hF
      repeat refine evDone ?_
      try (show AW _ _ _ _ _)
      repeat refine AW.seq ?_
      refine AW.condT (by simp []) (by simp []) ?_
      repeat refine AW.seq ?_
      refine AW.reg ?_
      by_cases hN : n = 0
      case neg =>
        have hF := hN
        repeat ((with_reducible show evIs _ (_ :: _) _ _); first | refine wQ ?_ | refine wF ?_ | refine wG ?_ | refine wT ?_ | refine wM ?_ | refine wS ?_ | refine wP ?_)
        clear hF
        repeat refine evDone ?_
        try (show AW _ _ _ _ _)
        have hfin : R = false := by rw [hR]; simp [wfV, wfN, wfsV, hN, hws]
        rw [hfin]
        refine AW.ret (retI rfl ?_)
        simp [hN, a15_res, resOk, resP, resV, ARes.op, R2s, R2, R1s, R1, closeOk, closeV]
      subst hN
      by_cases hT : t = ⟨#[]⟩
      case neg =>
        have hF := hT
        repeat ((with_reducible show evIs _ (_ :: _) _ _); first | refine wQ ?_ | refine wF ?_ | refine wG ?_ | refine wT ?_ | refine wM ?_ | refine wS ?_ | refine wP ?_)
        clear hF
        repeat refine evDone ?_
        try (show AW _ _ _ _ _)
        have hfin : R = false := by rw [hR]; simp [wfV, wfN, wfsV, hT, hws]
        rw [hfin]
        refine AW.ret (retI rfl ?_)
        simp [hT, a15_res, resOk, resP, resV, ARes.op, R2s, R2, R1s, R1, closeOk, closeV]
      subst hT
      by_cases hK : ks = []
      case neg =>
        have hKl : ¬ (ks.length : Int) = 0 := by have := List.length_pos_iff.2 hK; omega
        have hKp : (0 : Int) < (ks.length : Int) := by have := List.length_pos_iff.2 hK; omega
        have hKq : 0 < ks.length := List.length_pos_iff.2 hK
        have hF := And.intro (hK) (And.intro (hKl) (And.intro (hKp) (hKq)))
        repeat ((with_reducible show evIs _ (_ :: _) _ _); first | refine wQ ?_ | refine wF ?_ | refine wG ?_ | refine wT ?_ | refine wM ?_ | refine wS ?_ | refine wP ?_)
        clear hF
        repeat refine evDone ?_
        try (show AW _ _ _ _ _)
        have hfin : R = false := by rw [hR]; simp [wfV, wfN, wfsV, hK, hws]
        rw [hfin]
        refine AW.ret (retI rfl ?_)
        simp [hK, hKl, hKp, hKq, a15_res, resOk, resP, resV, ARes.op, R2s, R2, R1s, R1, closeOk, closeV]
      subst hK
      have hF := True.intro
      repeat ((with_reducible show evIs _ (_ :: _) _ _); first | refine wQ ?_ | refine wF ?_ | refine wG ?_ | refine wT ?_ | refine wM ?_ | refine wS ?_ | refine wP ?_)
      clear hF
      repeat refine evDone ?_
      try (show AW _ _ _ _ _)
      have hfin : R = true := by rw [hR]; simp [wfV, wfN, wfsV, hws]
      rw [hfin]
      refine AW.ret (retI rfl ?_)
      simp [a15_res, resOk, resP, resV, ARes.op, R2s, R2, R1s, R1, closeOk, closeV]
    have hF := hk4
    repeat ((with_reducible show evIs _ (_ :: _) _ _); first | refine wQ ?_ | refine wF ?_ | refine wG ?_ | refine wT ?_ | refine wM ?_ | refine wS ?_ | refine wP ?_)
    clear hF
    repeat refine evDone ?_
    try (show AW _ _ _ _ _)
    repeat refine AW.seq ?_
    refine AW.condF (by simp [hk4]) (by simp [hk4]) ?_
    repeat refine AW.seq ?_
    refine AW.reg ?_
    by_cases hk5 : k = 5
    case pos =>
      subst hk5
      have hF := True.intro
      repeat ((with_reducible show evIs _ (_ :: _) _ _); first | refine wQ ?_ | refine wF ?_ | refine wG ?_ | refine wT ?_ | refine wM ?_ | refine wS ?_ | refine wP ?_)
      clear hF
      repeat refine evDone ?_
      try (show AW _ _ _ _ _)
      repeat refine AW.seq ?_
      refine AW.condT (by simp []) (by simp []) ?_
      repeat refine AW.seq ?_
      refine AW.reg ?_
      by_cases hN : n = 0
      case neg =>
        have hF := hN
        repeat ((with_reducible show evIs _ (_ :: _) _ _); first | refine wQ ?_ | refine wF ?_ | refine wG ?_ | refine wT ?_ | refine wM ?_ | refine wS ?_ | refine wP ?_)
        clear hF
        repeat refine evDone ?_
        try (show AW _ _ _ _ _)
        have hfin : R = false := by rw [hR]; simp [wfV, wfN, wfsV, hN, hws]
        rw [hfin]
        refine AW.ret (retI rfl ?_)
        simp [hN, a15_res, resOk, resP, resV, ARes.op, R2s, R2, R1s, R1, closeOk, closeV]
      subst hN
      by_cases hT : t = ⟨#[]⟩
      case neg =>
        have hF := hT
        repeat ((with_reducible show evIs _ (_ :: _) _ _); first | refine wQ ?_ | refine wF ?_ | refine wG ?_ | refine wT ?_ | refine wM ?_ | refine wS ?_ | refine wP ?_)
        clear hF
        repeat refine evDone ?_
        try (show AW _ _ _ _ _)
        have hfin : R = false := by rw [hR]; simp [wfV, wfN, wfsV, hT, hws]
        rw [hfin]
        refine AW.ret (retI rfl ?_)
        simp [hT, a15_res, resOk, resP, resV, ARes.op, R2s, R2, R1s, R1, closeOk, closeV]
      subst hT
      by_cases hL : ks.length = is.length
      case neg =>
        have hLi : ¬ (ks.length : Int) = (is.length : Int) := by omega
        have hF := And.intro (hL) (hLi)
        repeat ((with_reducible show evIs _ (_ :: _) _ _); first | refine wQ ?_ | refine wF ?_ | refine wG ?_ | refine wT ?_ | refine wM ?_ | refine wS ?_ | refine wP ?_)
        clear hF
        repeat refine evDone ?_
        try (show AW _ _ _ _ _)
        have hfin : R = false := by rw [hR]; simp [wfV, wfN, wfsV, hL, hws]
        rw [hfin]
        refine AW.ret (retI rfl ?_)
        simp [hL, hLi, a15_res, resOk, resP, resV, ARes.op, R2s, R2, R1s, R1, closeOk, closeV]
      have hF := hL
      repeat ((with_reducible show evIs _ (_ :: _) _ _); first | refine wQ ?_ | refine wF ?_ | refine wG ?_ | refine wT ?_ | refine wM ?_ | refine wS ?_ | refine wP ?_)
      clear hF
      repeat refine evDone ?_
      try (show AW _ _ _ _ _)
      have hF := True.intro
      refine wC (hA := h60) ?_
      clear hF
      cases hr : rising ks with
      | true =>
        have hF := True.intro
        repeat ((with_reducible show evIs _ (_ :: _) _ _); first | refine wQ ?_ | refine wF ?_ | refine wG ?_ | refine wT ?_ | refine wM ?_ | refine wS ?_ | refine wP ?_)
        clear hF
        repeat refine evDone ?_
        try (show AW _ _ _ _ _)
        have hfin : R = true := by rw [hR]; simp [wfV, wfN, wfsV, hL, hr, hws]
        rw [hfin]
        refine AW.ret (retI rfl ?_)
        simp [a15_res, resOk, resP, resV, ARes.op, R2s, R2, R1s, R1, closeOk, closeV]
      | false =>
        have hF := True.intro
        repeat ((with_reducible show evIs _ (_ :: _) _ _); first | refine wQ ?_ | refine wF ?_ | refine wG ?_ | refine wT ?_ | refine wM ?_ | refine wS ?_ | refine wP ?_)
        clear hF
        repeat refine evDone ?_
        try (show AW _ _ _ _ _)
        have hfin : R = false := by rw [hR]; simp [wfV, wfN, wfsV, hL, hr, hws]
        rw [hfin]
        refine AW.ret (retI rfl ?_)
        simp [a15_res, resOk, resP, resV, ARes.op, R2s, R2, R1s, R1, closeOk, closeV]
    have hF := hk5
    repeat ((with_reducible show evIs _ (_ :: _) _ _); first | refine wQ ?_ | refine wF ?_ | refine wG ?_ | refine wT ?_ | refine wM ?_ | refine wS ?_ | refine wP ?_)
    clear hF
    repeat refine evDone ?_
    try (show AW _ _ _ _ _)
    repeat refine AW.seq ?_
    refine AW.condF (by simp [hk5]) (by simp [hk5]) ?_
    repeat refine AW.seq ?_
    refine AW.reg ?_
    by_cases hk6 : k = 6
    case pos =>
      subst hk6
      have hF := True.intro
      repeat ((with_reducible show evIs _ (_ :: _) _ _); first | refine wQ ?_ | refine wF ?_ | refine wG ?_ | refine wT ?_ | refine wM ?_ | refine wS ?_ | refine wP ?_)
      clear hF
      repeat refine evDone ?_
      try (show AW _ _ _ _ _)
      repeat refine AW.seq ?_
      refine AW.condT (by simp []) (by simp []) ?_
      repeat refine AW.seq ?_
      refine AW.reg ?_
      by_cases hP : 0 ≤ n
      case neg =>
        have hF := hP
        repeat ((with_reducible show evIs _ (_ :: _) _ _); first | refine wQ ?_ | refine wF ?_ | refine wG ?_ | refine wT ?_ | refine wM ?_ | refine wS ?_ | refine wP ?_)
        clear hF
        repeat refine evDone ?_
        try (show AW _ _ _ _ _)
        have hfin : R = false := by rw [hR]; simp [wfV, wfN, wfsV, hP, hws]
        rw [hfin]
        refine AW.ret (retI rfl ?_)
        simp [hP, a15_res, resOk, resP, resV, ARes.op, R2s, R2, R1s, R1, closeOk, closeV]
      by_cases hT : t = ⟨#[]⟩
      case neg =>
        have hF := And.intro (hP) (hT)
        repeat ((with_reducible show evIs _ (_ :: _) _ _); first | refine wQ ?_ | refine wF ?_ | refine wG ?_ | refine wT ?_ | refine wM ?_ | refine wS ?_ | refine wP ?_)
        clear hF
        repeat refine evDone ?_
        try (show AW _ _ _ _ _)
        have hfin : R = false := by rw [hR]; simp [wfV, wfN, wfsV, hP, hT, hws]
        rw [hfin]
        refine AW.ret (retI rfl ?_)
        simp [hP, hT, a15_res, resOk, resP, resV, ARes.op, R2s, R2, R1s, R1, closeOk, closeV]
      subst hT
      by_cases hI : is = []
      case neg =>
        have hIl : ¬ (is.length : Int) = 0 := by have := List.length_pos_iff.2 hI; omega
        have hIp : (0 : Int) < (is.length : Int) := by have := List.length_pos_iff.2 hI; omega
        have hIq : 0 < is.length := List.length_pos_iff.2 hI
        have hF := And.intro (hP) (And.intro (hI) (And.intro (hIl) (And.intro (hIp) (hIq))))
        repeat ((with_reducible show evIs _ (_ :: _) _ _); first | refine wQ ?_ | refine wF ?_ | refine wG ?_ | refine wT ?_ | refine wM ?_ | refine wS ?_ | refine wP ?_)
        clear hF
        repeat refine evDone ?_
        try (show AW _ _ _ _ _)
        have hfin : R = false := by rw [hR]; simp [wfV, wfN, wfsV, hP, hI, hws]
        rw [hfin]
        refine AW.ret (retI rfl ?_)
        simp [hP, hI, hIl, hIp, hIq, a15_res, resOk, resP, resV, ARes.op, R2s, R2, R1s, R1, closeOk, closeV]
      subst hI
      by_cases hK : ks = []
      case neg =>
        have hKl : ¬ (ks.length : Int) = 0 := by have := List.length_pos_iff.2 hK; omega
        have hKp : (0 : Int) < (ks.length : Int) := by have := List.length_pos_iff.2 hK; omega
        have hKq : 0 < ks.length := List.length_pos_iff.2 hK
        have hF := And.intro (hP) (And.intro (hK) (And.intro (hKl) (And.intro (hKp) (hKq))))
        repeat ((with_reducible show evIs _ (_ :: _) _ _); first | refine wQ ?_ | refine wF ?_ | refine wG ?_ | refine wT ?_ | refine wM ?_ | refine wS ?_ | refine wP ?_)
        clear hF
        repeat refine evDone ?_
        try (show AW _ _ _ _ _)
        have hfin : R = false := by rw [hR]; simp [wfV, wfN, wfsV, hP, hK, hws]
        rw [hfin]
        refine AW.ret (retI rfl ?_)
        simp [hP, hK, hKl, hKp, hKq, a15_res, resOk, resP, resV, ARes.op, R2s, R2, R1s, R1, closeOk, closeV]
      subst hK
      have hF := hP
      repeat ((with_reducible show evIs _ (_ :: _) _ _); first | refine wQ ?_ | refine wF ?_ | refine wG ?_ | refine wT ?_ | refine wM ?_ | refine wS ?_ | refine wP ?_)
      clear hF
      repeat refine evDone ?_
      try (show AW _ _ _ _ _)
      have hfin : R = true := by rw [hR]; simp [wfV, wfN, wfsV, hP, hws]
      rw [hfin]
      refine AW.ret (retI rfl ?_)
      simp [a15_res, resOk, resP, resV, ARes.op, R2s, R2, R1s, R1, closeOk, closeV]
    have hF := hk6
    repeat ((with_reducible show evIs _ (_ :: _) _ _); first | refine wQ ?_ | refine wF ?_ | refine wG ?_ | refine wT ?_ | refine wM ?_ | refine wS ?_ | refine wP ?_)
    clear hF
    repeat refine evDone ?_
    try (show AW _ _ _ _ _)
    repeat refine AW.seq ?_
    refine AW.condF (by simp [hk6]) (by simp [hk6]) ?_
    refine AW.skip ?_
    show AW _ _ _ _ _
    repeat refine AW.seq ?_
    refine AW.reg ?_
    have hF := True.intro
    repeat ((with_reducible show evIs _ (_ :: _) _ _); first | refine wQ ?_ | refine wF ?_ | refine wG ?_ | refine wT ?_ | refine wM ?_ | refine wS ?_ | refine wP ?_)
    clear hF
    repeat refine evDone ?_
    try (show AW _ _ _ _ _)
    have hfin : R = false := by rw [hR]; simp [wfV, wfN, wfsV, hk0, hk1, hk2, hk3, hk4, hk5, hk6]
    rw [hfin]
    refine AW.ret (retI rfl ?_)
    simp [a15_res, resOk, resP, resV, ARes.op, R2s, R2, R1s, R1, closeOk, closeV]
theorem f15 (v : Val) (hok : v.okv) : ACall Try.prog 15 [v.av] (· = .bool (wfV true v)) := by
  have key : ∀ (m : Nat) (v : Val), v.sz ≤ m → v.okv → ACall Try.prog 15 [v.av] (· = .bool (wfV true v)) := by
    intro m
    induction m using Nat.strongRecOn with
    | _ m ih => exact fun v hm hok => f15_step m (fun v' h => ih v'.sz h v' (Nat.le_refl _)) v hm hok
  exact key _ v (Nat.le_refl _) hok
end Go.Proofs.Ytdnpnokplfemfaa

set_option linter.unusedSimpArgs false
set_option linter.unusedVariables false
set_option maxHeartbeats 8000000
namespace Go.Proofs.Ytdnpnokplfemfaa
open Go Go.Amb Go.IntWalk

theorem toList_data (a : ByteArray) : a.toList = a.data.toList := by
  have key : ∀ (m i : Nat) (r : List UInt8), a.size - i = m → ByteArray.toList.loop a i r = r.reverse ++ a.data.toList.drop i := by
    intro m
    induction m with
    | zero =>
      intro i r h
      rw [ByteArray.toList.loop, if_neg (by omega), List.drop_eq_nil_of_le (by show a.data.size ≤ i; exact Nat.le_of_sub_eq_zero h), List.append_nil]
    | succ m ih =>
      intro i r h
      have hi : i < a.data.toList.length := by show i < a.data.size; have : a.size = a.data.size := rfl; omega
      have hg : a.get! i = a.data.toList[i] := by
        show a.data[i]! = _
        rw [getElem!_pos a.data i hi]
        rfl
      rw [ByteArray.toList.loop, if_pos (by omega), ih _ _ (by omega), hg, List.reverse_cons, List.append_assoc, List.drop_eq_getElem_cons hi]
      rfl
  rw [ByteArray.toList, key _ 0 [] rfl]
  rfl
theorem cmpL_lt : ∀ a b : List UInt8, Lib.compareBytes a b = if a = b then 0 else if Op.bytesLess a b = true then -1 else 1
  | [], [] => by simp [Lib.compareBytes]
  | [], b :: bs => by simp [Lib.compareBytes, Op.bytesLess]
  | a :: xs, [] => by simp [Lib.compareBytes, Op.bytesLess]
  | a :: xs, b :: ys => by
    rw [Lib.compareBytes, cmpL_lt xs ys, Op.bytesLess]
    by_cases h : a = b
    · subst h
      have hlt : ¬ a < a := UInt8.lt_irrefl a
      simp [hlt]
    · by_cases hlt : a < b
      · simp [hlt, h]
      · have hgt : b < a := UInt8.lt_of_le_of_ne (UInt8.not_lt.1 hlt) (Ne.symm h)
        simp [hlt, hgt, h]
def cmpI (a b : Int) : Int := if a < b then -1 else if b < a then 1 else 0
def cmpS (a b : ByteArray) : Int := Lib.compareBytes a.data.toList b.data.toList
theorem bytes_ext {a b : ByteArray} (h : a.data.toList = b.data.toList) : a = b := by
  obtain ⟨⟨x⟩⟩ := a
  obtain ⟨⟨y⟩⟩ := b
  simp only at h
  rw [h]
theorem cmpS_lt (a b : ByteArray) : cmpS a b = if a = b then 0 else if Op.bytesLess a.toList b.toList = true then -1 else 1 := by
  rw [cmpS, cmpL_lt, toList_data, toList_data]
  by_cases h : a = b
  · subst h; simp
  · rw [if_neg h, if_neg (fun e => h (bytes_ext e))]
theorem cmpS_zero {a b : ByteArray} : cmpS a b = 0 ↔ a = b := by
  rw [cmpS_lt]
  by_cases h : a = b
  · simp [h]
  · simp only [h, if_false, iff_false]
    split <;> omega
theorem cmpI_zero {a b : Int} : cmpI a b = 0 ↔ a = b := by unfold cmpI; split <;> (try split) <;> omega
theorem headD_at {α : Type} {l : List α} {i : Nat} {a d : α} (h : l[i]? = some a) : (l.drop i).headD d = a := by
  rw [List.headD_eq_head?_getD, List.head?_drop, h]
  rfl
theorem wf_keys {f : Bool} {k n : Int} {t : ByteArray} {is : List Val} {ks : List ByteArray} (h : wfV f (.mk k n t is ks) = true) (h5 : k = 5) : ks.length = is.length := by
  subst h5
  simp [wfV, wfN] at h
  exact h.1.2.2.1
theorem wfsV_mem {f : Bool} {vs : List Val} {v : Val} (h : wfsV f vs = true) (hv : v ∈ vs) : wfV f v = true := by
  rw [wfsV_all] at h
  exact List.all_eq_true.1 h v hv
theorem f99 (a b : ByteArray) : ACall Try.prog 99 [.str a, .str b] (· = .int .i64 (cmpS a b)) := by
  have hc : cmpS a b = Lib.compareBytes a.data.toList b.data.toList := rfl
  refine a99_of (by simp) ?_
  repeat refine AW.seq ?_
  refine AW.reg ?_
  have hF := True.intro
  repeat ((with_reducible show evIs _ (_ :: _) _ _); first | refine wQ ?_ | refine wF ?_ | refine wG ?_ | refine wT ?_ | refine wM ?_ | refine wS ?_ | refine wP ?_)
  clear hF
  repeat refine evDone ?_
  try (show AW _ _ _ _ _)
  repeat refine AW.seq ?_
  refine AW.reg ?_
  have hF := True.intro
  repeat ((with_reducible show evIs _ (_ :: _) _ _); first | refine wQ ?_ | refine wF ?_ | refine wG ?_ | refine wT ?_ | refine wM ?_ | refine wS ?_ | refine wP ?_)
  clear hF
  repeat refine evDone ?_
  try (show AW _ _ _ _ _)
  refine AW.ret (retI rfl ?_)
  simp [hc, a99_res, resOk, resP, resV, ARes.op, R2s, R2, R1s, R1, closeOk, closeV]
theorem f73 (a b : ByteArray) : ACall Try.prog 73 [.str a, .str b] (· = .int .i64 (cmpS a b)) := by
  have h := f99 a b
  refine a73_of (by simp) ?_
  repeat refine AW.seq ?_
  refine AW.reg ?_
  have hF := True.intro
  repeat ((with_reducible show evIs _ (_ :: _) _ _); first | refine wQ ?_ | refine wF ?_ | refine wG ?_ | refine wT ?_ | refine wM ?_ | refine wS ?_ | refine wP ?_)
  clear hF
  repeat refine evDone ?_
  try (show AW _ _ _ _ _)
  repeat refine AW.seq ?_
  refine AW.reg ?_
  have hF := True.intro
  repeat ((with_reducible show evIs _ (_ :: _) _ _); first | refine wQ ?_ | refine wF ?_ | refine wG ?_ | refine wT ?_ | refine wM ?_ | refine wS ?_ | refine wP ?_)
  clear hF
  repeat refine evDone ?_
  try (show AW _ _ _ _ _)
  have hF := True.intro
  refine wC (hA := h) ?_
  clear hF
  have hF := True.intro
  repeat ((with_reducible show evIs _ (_ :: _) _ _); first | refine wQ ?_ | refine wF ?_ | refine wG ?_ | refine wT ?_ | refine wM ?_ | refine wS ?_ | refine wP ?_)
  clear hF
  repeat refine evDone ?_
  try (show AW _ _ _ _ _)
  refine AW.ret (retI rfl ?_)
  simp [a73_res, resOk, resP, resV, ARes.op, R2s, R2, R1s, R1, closeOk, closeV]
theorem f89 (a b : Int) : ACall Try.prog 89 [.int .i64 a, .int .i64 b] (· = .int .i64 (cmpI a b)) := by
  refine a89_of (by simp) ?_
  repeat refine AW.seq ?_
  refine AW.reg ?_
  have hF := True.intro
  repeat ((with_reducible show evIs _ (_ :: _) _ _); first | refine wQ ?_ | refine wF ?_ | refine wG ?_ | refine wT ?_ | refine wM ?_ | refine wS ?_ | refine wP ?_)
  clear hF
  repeat refine evDone ?_
  try (show AW _ _ _ _ _)
  repeat refine AW.seq ?_
  refine AW.block ?_
  repeat refine AW.seq ?_
  refine AW.reg ?_
  by_cases h : a < b
  · have hF := h
    repeat ((with_reducible show evIs _ (_ :: _) _ _); first | refine wQ ?_ | refine wF ?_ | refine wG ?_ | refine wT ?_ | refine wM ?_ | refine wS ?_ | refine wP ?_)
    clear hF
    repeat refine evDone ?_
    try (show AW _ _ _ _ _)
    repeat refine AW.seq ?_
    refine AW.condT (by simp [h]) (by simp [h]) ?_
    repeat refine AW.seq ?_
    refine AW.reg ?_
    have hF := True.intro
    repeat ((with_reducible show evIs _ (_ :: _) _ _); first | refine wQ ?_ | refine wF ?_ | refine wG ?_ | refine wT ?_ | refine wM ?_ | refine wS ?_ | refine wP ?_)
    clear hF
    repeat refine evDone ?_
    try (show AW _ _ _ _ _)
    refine AW.ret (retI rfl ?_)
    simp [cmpI, h, a89_res, resOk, resP, resV, ARes.op, R2s, R2, R1s, R1, closeOk, closeV]
  have hF := h
  repeat ((with_reducible show evIs _ (_ :: _) _ _); first | refine wQ ?_ | refine wF ?_ | refine wG ?_ | refine wT ?_ | refine wM ?_ | refine wS ?_ | refine wP ?_)
  clear hF
  repeat refine evDone ?_
  try (show AW _ _ _ _ _)
  repeat refine AW.seq ?_
  refine AW.condF (by simp [h]) (by simp [h]) ?_
  repeat refine AW.seq ?_
  refine AW.reg ?_
  by_cases h' : b < a
  · have hF := h'
    repeat ((with_reducible show evIs _ (_ :: _) _ _); first | refine wQ ?_ | refine wF ?_ | refine wG ?_ | refine wT ?_ | refine wM ?_ | refine wS ?_ | refine wP ?_)
    clear hF
    repeat refine evDone ?_
    try (show AW _ _ _ _ _)
    repeat refine AW.seq ?_
    refine AW.condT (by simp [h']) (by simp [h']) ?_
    repeat refine AW.seq ?_
    refine AW.reg ?_
    have hF := True.intro
    repeat ((with_reducible show evIs _ (_ :: _) _ _); first | refine wQ ?_ | refine wF ?_ | refine wG ?_ | refine wT ?_ | refine wM ?_ | refine wS ?_ | refine wP ?_)
    clear hF
    repeat refine evDone ?_
    try (show AW _ _ _ _ _)
    refine AW.ret (retI rfl ?_)
    simp [cmpI, h, h', a89_res, resOk, resP, resV, ARes.op, R2s, R2, R1s, R1, closeOk, closeV]
  have hF := h'
  repeat ((with_reducible show evIs _ (_ :: _) _ _); first | refine wQ ?_ | refine wF ?_ | refine wG ?_ | refine wT ?_ | refine wM ?_ | refine wS ?_ | refine wP ?_)
  clear hF
  repeat refine evDone ?_
  try (show AW _ _ _ _ _)
  repeat refine AW.seq ?_
  refine AW.condF (by simp [h']) (by simp [h']) ?_
  refine AW.skip ?_
  show AW _ _ _ _ _
  repeat refine AW.seq ?_
  refine AW.reg ?_
  have hF := True.intro
  repeat ((with_reducible show evIs _ (_ :: _) _ _); first | refine wQ ?_ | refine wF ?_ | refine wG ?_ | refine wT ?_ | refine wM ?_ | refine wS ?_ | refine wP ?_)
  clear hF
  repeat refine evDone ?_
  try (show AW _ _ _ _ _)
  refine AW.ret (retI rfl ?_)
  simp [cmpI, h, h', a89_res, resOk, resP, resV, ARes.op, R2s, R2, R1s, R1, closeOk, closeV]
end Go.Proofs.Ytdnpnokplfemfaa
