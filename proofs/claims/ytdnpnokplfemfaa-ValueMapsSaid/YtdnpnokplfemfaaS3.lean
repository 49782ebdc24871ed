/- Contracts of chapter 2's functions, sixth part: well-formed values, the program's. -/
import Derived.Test.YtdnpnokplfemfaaS1
import Derived.Test.YtdnpnokplfemfaaS2

set_option linter.unusedSimpArgs false
set_option linter.unusedVariables false
set_option maxHeartbeats 8000000
namespace Go.Proofs.Ytdnpnokplfemfaa
open Go Go.Amb Go.IntWalk

theorem f88_of (f : Bool) (x : Val) (h57 : ACall Try.prog 57 [x.av, .bool f] (· = .bool (wfV f x))) : ACall Try.prog 88 [x.av, .fptr (.bool f) 0] (· = .bool (!wfV f x)) := by
  obtain ⟨k, n, t, is, ks⟩ := x
  simp only [Val.av] at h57 ⊢
  refine a88_of (by simp) ?_
  repeat refine AW.seq ?_
  refine AW.reg ?_
  have hF := True.intro
  repeat ((with_reducible show evIs _ (_ :: _) _ _); first | refine wQ ?_ | refine wF ?_ | refine wG ?_ | refine wT ?_ | refine wM ?_ | refine wS ?_ | refine wP ?_)
  clear hF
  repeat refine evDone ?_
  try (show AW _ _ _ _ _)
  repeat refine AW.seq ?_
  refine AW.reg ?_
  have hF := True.intro
  repeat ((with_reducible show evIs _ (_ :: _) _ _); first | refine wQ ?_ | refine wF ?_ | refine wG ?_ | refine wT ?_ | refine wM ?_ | refine wS ?_ | refine wP ?_)
  clear hF
  repeat refine evDone ?_
  try (show AW _ _ _ _ _)
  have hF := True.intro
  refine wC (hA := h57) ?_
  clear hF
  have hF := True.intro
  repeat ((with_reducible show evIs _ (_ :: _) _ _); first | refine wQ ?_ | refine wF ?_ | refine wG ?_ | refine wT ?_ | refine wM ?_ | refine wS ?_ | refine wP ?_)
  clear hF
  repeat refine evDone ?_
  try (show AW _ _ _ _ _)
  refine AW.ret (retI rfl ?_)
  simp [a88_res, resOk, resP, resV, ARes.op, R2s, R2, R1s, R1, closeOk, closeV]
theorem f57_step (m : Nat) (f : Bool) (ih : ∀ v : Val, v.sz < m → v.okv → ACall Try.prog 57 [v.av, .bool f] (· = .bool (wfV f v))) (v : Val) (hm : v.sz ≤ m) (hok : v.okv) : ACall Try.prog 57 [v.av, .bool f] (· = .bool (wfV f v)) := by
  obtain ⟨k, n, t, is, ks⟩ := v
  simp only [Val.av, Val.sz, Val.okv] at hm hok ⊢
  obtain ⟨ho1, ho2, ho3⟩ := hok
  have h86 := f86 ks (by omega)
  have h87 := f87 is (by omega) 88 [.fptr (.bool f) 0] (fun x => !wfV f x) (fun x hx => f88_of f x (ih x (by have := szs_mem hx; omega) (okvs_mem ho3 hx))) (by simp) (by simp)
  have hma : ∀ (fh fq : Nat → Nat → Nat → AV) (b : Bool), mapA fh fq (.bool b) = .bool b := fun _ _ _ => by simp [mapA]
  obtain ⟨R, hR⟩ : ∃ R, R = wfV f (.mk k n t is ks) := ⟨_, rfl⟩
  rw [← hR]
  refine a57_of (by simp) ?_
  repeat refine AW.seq ?_
  refine AW.reg ?_
  have hF := True.intro
  repeat ((with_reducible show evIs _ (_ :: _) _ _); first | refine wQ ?_ | refine wF ?_ | refine wG ?_ | refine wT ?_ | refine wM ?_ | refine wS ?_ | refine wP ?_)
  clear hF
  repeat refine evDone ?_
  try (show AW _ _ _ _ _)
  repeat refine AW.seq ?_
  refine AW.reg ?_
  have hF := True.intro
  repeat ((with_reducible show evIs _ (_ :: _) _ _); first | refine wQ ?_ | refine wF ?_ | refine wG ?_ | refine wT ?_ | refine wM ?_ | refine wS ?_ | refine wP ?_)
  clear hF
  repeat refine evDone ?_
  try (show AW _ _ _ _ _)
  repeat refine AW.seq ?_
  refine AW.reg ?_
  have hF := True.intro
  repeat ((with_reducible show evIs _ (_ :: _) _ _); first | refine wQ ?_ | refine wF ?_ | refine wG ?_ | refine wT ?_ | refine wM ?_ | refine wS ?_ | refine wP ?_)
  clear hF
  repeat refine evDone ?_
  try (show AW _ _ _ _ _)
  repeat refine AW.seq ?_
  refine AW.reg ?_
  have hF := True.intro
  repeat ((with_reducible show evIs _ (_ :: _) _ _); first | refine wQ ?_ | refine wF ?_ | refine wG ?_ | refine wT ?_ | refine wM ?_ | refine wS ?_ | refine wP ?_)
  clear hF
  repeat refine evDone ?_
  try (show AW _ _ _ _ _)
  repeat refine AW.seq ?_
  refine AW.reg ?_
  have hF := True.intro
  repeat ((with_reducible show evIs _ (_ :: _) _ _); first | refine wQ ?_ | refine wF ?_ | refine wG ?_ | refine wT ?_ | refine wM ?_ | refine wS ?_ | refine wP ?_)
  clear hF
  repeat refine evDone ?_
  try (show AW _ _ _ _ _)
  repeat refine AW.seq ?_
  refine AW.reg ?_
  have hF := True.intro
  repeat ((with_reducible show evIs _ (_ :: _) _ _); first | refine wQ ?_ | refine wF ?_ | refine wG ?_ | refine wT ?_ | refine wM ?_ | refine wS ?_ | refine wP ?_)
  clear hF
  repeat refine evDone ?_
  try (show AW _ _ _ _ _)
  repeat refine AW.seq ?_
  refine AW.block ?_
  repeat refine AW.seq ?_
  refine AW.reg ?_
  by_cases hk0 : k = 0
  case pos =>
    subst hk0
    have hF := True.intro
    repeat ((with_reducible show evIs _ (_ :: _) _ _); first | refine wQ ?_ | refine wF ?_ | refine wG ?_ | refine wT ?_ | refine wM ?_ | refine wS ?_ | refine wP ?_)
    clear hF
    repeat refine evDone ?_
    try (show AW _ _ _ _ _)
    repeat refine AW.seq ?_
    refine AW.condT (by simp []) (by simp []) ?_
    repeat refine AW.seq ?_
    refine AW.reg ?_
    have hF := True.intro
    repeat ((with_reducible show evIs _ (_ :: _) _ _); first | refine wQ ?_ | refine wF ?_ | refine wG ?_ | refine wT ?_ | refine wM ?_ | refine wS ?_ | refine wP ?_)
    clear hF
    repeat refine evDone ?_
    try (show AW _ _ _ _ _)
    by_cases hN : n = 0
    case neg =>
      have hF := hN
      repeat ((with_reducible show evIs _ (_ :: _) _ _); first | refine wQ ?_ | refine wF ?_ | refine wG ?_ | refine wT ?_ | refine wM ?_ | refine wS ?_ | refine wP ?_)
      clear hF
      repeat refine evDone ?_
      try (show AW _ _ _ _ _)
      have hfin : R = false := by rw [hR]; simp [wfV, wfN, wfsV, hN]
      rw [hfin]
      refine AW.ret (retI rfl ?_)
      simp [hN, a57_res, resOk, resP, resV, ARes.op, R2s, R2, R1s, R1, closeOk, closeV]
    subst hN
    have hF := True.intro
    repeat ((with_reducible show evIs _ (_ :: _) _ _); first | refine wQ ?_ | refine wF ?_ | refine wG ?_ | refine wT ?_ | refine wM ?_ | refine wS ?_ | refine wP ?_)
    clear hF
    repeat refine evDone ?_
    try (show AW _ _ _ _ _)
    by_cases hT : t = ⟨#[]⟩
    case neg =>
      have hF := hT
      repeat ((with_reducible show evIs _ (_ :: _) _ _); first | refine wQ ?_ | refine wF ?_ | refine wG ?_ | refine wT ?_ | refine wM ?_ | refine wS ?_ | refine wP ?_)
      clear hF
      repeat refine evDone ?_
      try (show AW _ _ _ _ _)
      have hfin : R = false := by rw [hR]; simp [wfV, wfN, wfsV, hT]
      rw [hfin]
      refine AW.ret (retI rfl ?_)
      simp [hT, a57_res, resOk, resP, resV, ARes.op, R2s, R2, R1s, R1, closeOk, closeV]
    subst hT
    have hF := True.intro
    repeat ((with_reducible show evIs _ (_ :: _) _ _); first | refine wQ ?_ | refine wF ?_ | refine wG ?_ | refine wT ?_ | refine wM ?_ | refine wS ?_ | refine wP ?_)
    clear hF
    repeat refine evDone ?_
    try (show AW _ _ _ _ _)
    by_cases hI : is = []
    case neg =>
      have hIl : ¬ (is.length : Int) = 0 := by have := List.length_pos_iff.2 hI; omega
      have hIp : (0 : Int) < (is.length : Int) := by have := List.length_pos_iff.2 hI; omega
      have hIq : 0 < is.length := List.length_pos_iff.2 hI
      have hF := And.intro (hI) (And.intro (hIl) (And.intro (hIp) (hIq)))
      repeat ((with_reducible show evIs _ (_ :: _) _ _); first | refine wQ ?_ | refine wF ?_ | refine wG ?_ | refine wT ?_ | refine wM ?_ | refine wS ?_ | refine wP ?_)
      clear hF
      repeat refine evDone ?_
      try (show AW _ _ _ _ _)
      have hfin : R = false := by rw [hR]; simp [wfV, wfN, wfsV, hI]
      rw [hfin]
      refine AW.ret (retI rfl ?_)
      simp [hI, hIl, hIp, hIq, a57_res, resOk, resP, resV, ARes.op, R2s, R2, R1s, R1, closeOk, closeV]
    subst hI
    have hF := True.intro
    repeat ((with_reducible show evIs _ (_ :: _) _ _); first | refine wQ ?_ | refine wF ?_ | refine wG ?_ | refine wT ?_ | refine wM ?_ | refine wS ?_ | refine wP ?_)
    clear hF
    repeat refine evDone ?_
    try (show AW _ _ _ _ _)
    by_cases hK : ks = []
    case neg =>
      have hKl : ¬ (ks.length : Int) = 0 := by have := List.length_pos_iff.2 hK; omega
      have hKp : (0 : Int) < (ks.length : Int) := by have := List.length_pos_iff.2 hK; omega
      have hKq : 0 < ks.length := List.length_pos_iff.2 hK
      have hF := And.intro (hK) (And.intro (hKl) (And.intro (hKp) (hKq)))
      repeat ((with_reducible show evIs _ (_ :: _) _ _); first | refine wQ ?_ | refine wF ?_ | refine wG ?_ | refine wT ?_ | refine wM ?_ | refine wS ?_ | refine wP ?_)
      clear hF
      repeat refine evDone ?_
      try (show AW _ _ _ _ _)
      have hfin : R = false := by rw [hR]; simp [wfV, wfN, wfsV, hK]
      rw [hfin]
      refine AW.ret (retI rfl ?_)
      simp [hK, hKl, hKp, hKq, a57_res, resOk, resP, resV, ARes.op, R2s, R2, R1s, R1, closeOk, closeV]
    subst hK
    have hF := True.intro
    repeat ((with_reducible show evIs _ (_ :: _) _ _); first | refine wQ ?_ | refine wF ?_ | refine wG ?_ | refine wT ?_ | refine wM ?_ | refine wS ?_ | refine wP ?_)
    clear hF
    repeat refine evDone ?_
    try (show AW _ _ _ _ _)
    have hF := True.intro
    repeat ((with_reducible show evIs _ (_ :: _) _ _); first | refine wQ ?_ | refine wF ?_ | refine wG ?_ | refine wT ?_ | refine wM ?_ | refine wS ?_ | refine wP ?_)
    clear hF
    repeat refine evDone ?_
    try (show AW _ _ _ _ _)
    have hfin : R = true := by rw [hR]; simp [wfV, wfN, wfsV]
    rw [hfin]
    refine AW.ret (retI rfl ?_)
    simp [a57_res, resOk, resP, resV, ARes.op, R2s, R2, R1s, R1, closeOk, closeV]
  have hF := hk0
  repeat ((with_reducible show evIs _ (_ :: _) _ _); first | refine wQ ?_ | refine wF ?_ | refine wG ?_ | refine wT ?_ | refine wM ?_ | refine wS ?_ | refine wP ?_)
  clear hF
  repeat refine evDone ?_
  try (show AW _ _ _ _ _)
  repeat refine AW.seq ?_
  refine AW.condF (by simp [hk0]) (by simp [hk0]) ?_
  repeat refine AW.seq ?_
  refine AW.reg ?_
  by_cases hk1 : k = 1
  case pos =>
    subst hk1
    have hF := True.intro
    repeat ((with_reducible show evIs _ (_ :: _) _ _); first | refine wQ ?_ | refine wF ?_ | refine wG ?_ | refine wT ?_ | refine wM ?_ | refine wS ?_ | refine wP ?_)
    clear hF
    repeat refine evDone ?_
    try (show AW _ _ _ _ _)
    repeat refine AW.seq ?_
    refine AW.condT (by simp []) (by simp []) ?_
    repeat refine AW.seq ?_
    refine AW.reg ?_
    have hF := True.intro
    repeat ((with_reducible show evIs _ (_ :: _) _ _); first | refine wQ ?_ | refine wF ?_ | refine wG ?_ | refine wT ?_ | refine wM ?_ | refine wS ?_ | refine wP ?_)
    clear hF
    repeat refine evDone ?_
    try (show AW _ _ _ _ _)
    by_cases hN : n = 0
    case pos =>
      subst hN
      have hF := True.intro
      repeat ((with_reducible show evIs _ (_ :: _) _ _); first | refine wQ ?_ | refine wF ?_ | refine wG ?_ | refine wT ?_ | refine wM ?_ | refine wS ?_ | refine wP ?_)
      clear hF
      repeat refine evDone ?_
      try (show AW _ _ _ _ _)
      by_cases hT : t = ⟨#[]⟩
      case neg =>
        have hF := hT
        repeat ((with_reducible show evIs _ (_ :: _) _ _); first | refine wQ ?_ | refine wF ?_ | refine wG ?_ | refine wT ?_ | refine wM ?_ | refine wS ?_ | refine wP ?_)
        clear hF
        repeat refine evDone ?_
        try (show AW _ _ _ _ _)
        have hfin : R = false := by rw [hR]; simp [wfV, wfN, wfsV, hT]
        rw [hfin]
        refine AW.ret (retI rfl ?_)
        simp [hT, a57_res, resOk, resP, resV, ARes.op, R2s, R2, R1s, R1, closeOk, closeV]
      subst hT
      have hF := True.intro
      repeat ((with_reducible show evIs _ (_ :: _) _ _); first | refine wQ ?_ | refine wF ?_ | refine wG ?_ | refine wT ?_ | refine wM ?_ | refine wS ?_ | refine wP ?_)
      clear hF
      repeat refine evDone ?_
      try (show AW _ _ _ _ _)
      by_cases hI : is = []
      case neg =>
        have hIl : ¬ (is.length : Int) = 0 := by have := List.length_pos_iff.2 hI; omega
        have hIp : (0 : Int) < (is.length : Int) := by have := List.length_pos_iff.2 hI; omega
        have hIq : 0 < is.length := List.length_pos_iff.2 hI
        have hF := And.intro (hI) (And.intro (hIl) (And.intro (hIp) (hIq)))
        repeat ((with_reducible show evIs _ (_ :: _) _ _); first | refine wQ ?_ | refine wF ?_ | refine wG ?_ | refine wT ?_ | refine wM ?_ | refine wS ?_ | refine wP ?_)
        clear hF
        repeat refine evDone ?_
        try (show AW _ _ _ _ _)
        have hfin : R = false := by rw [hR]; simp [wfV, wfN, wfsV, hI]
        rw [hfin]
        refine AW.ret (retI rfl ?_)
        simp [hI, hIl, hIp, hIq, a57_res, resOk, resP, resV, ARes.op, R2s, R2, R1s, R1, closeOk, closeV]
      subst hI
      have hF := True.intro
      repeat ((with_reducible show evIs _ (_ :: _) _ _); first | refine wQ ?_ | refine wF ?_ | refine wG ?_ | refine wT ?_ | refine wM ?_ | refine wS ?_ | refine wP ?_)
      clear hF
      repeat refine evDone ?_
      try (show AW _ _ _ _ _)
      by_cases hK : ks = []
      case neg =>
        have hKl : ¬ (ks.length : Int) = 0 := by have := List.length_pos_iff.2 hK; omega
        have hKp : (0 : Int) < (ks.length : Int) := by have := List.length_pos_iff.2 hK; omega
        have hKq : 0 < ks.length := List.length_pos_iff.2 hK
        have hF := And.intro (hK) (And.intro (hKl) (And.intro (hKp) (hKq)))
        repeat ((with_reducible show evIs _ (_ :: _) _ _); first | refine wQ ?_ | refine wF ?_ | refine wG ?_ | refine wT ?_ | refine wM ?_ | refine wS ?_ | refine wP ?_)
        clear hF
        repeat refine evDone ?_
        try (show AW _ _ _ _ _)
        have hfin : R = false := by rw [hR]; simp [wfV, wfN, wfsV, hK]
        rw [hfin]
        refine AW.ret (retI rfl ?_)
        simp [hK, hKl, hKp, hKq, a57_res, resOk, resP, resV, ARes.op, R2s, R2, R1s, R1, closeOk, closeV]
      subst hK
      have hF := True.intro
      repeat ((with_reducible show evIs _ (_ :: _) _ _); first | refine wQ ?_ | refine wF ?_ | refine wG ?_ | refine wT ?_ | refine wM ?_ | refine wS ?_ | refine wP ?_)
      clear hF
      repeat refine evDone ?_
      try (show AW _ _ _ _ _)
      have hF := True.intro
      repeat ((with_reducible show evIs _ (_ :: _) _ _); first | refine wQ ?_ | refine wF ?_ | refine wG ?_ | refine wT ?_ | refine wM ?_ | refine wS ?_ | refine wP ?_)
      clear hF
      repeat refine evDone ?_
      try (show AW _ _ _ _ _)
      have hfin : R = true := by rw [hR]; simp [wfV, wfN, wfsV]
      rw [hfin]
      refine AW.ret (retI rfl ?_)
      simp [a57_res, resOk, resP, resV, ARes.op, R2s, R2, R1s, R1, closeOk, closeV]
    by_cases hN1 : n = 1
    case pos =>
      subst hN1
      have hF := True.intro
      repeat ((with_reducible show evIs _ (_ :: _) _ _); first | refine wQ ?_ | refine wF ?_ | refine wG ?_ | refine wT ?_ | refine wM ?_ | refine wS ?_ | refine wP ?_)
      clear hF
      repeat refine evDone ?_
      try (show AW _ _ _ _ _)
      by_cases hT : t = ⟨#[]⟩
      case neg =>
        have hF := hT
        repeat ((with_reducible show evIs _ (_ :: _) _ _); first | refine wQ ?_ | refine wF ?_ | refine wG ?_ | refine wT ?_ | refine wM ?_ | refine wS ?_ | refine wP ?_)
        clear hF
        repeat refine evDone ?_
        try (show AW _ _ _ _ _)
        have hfin : R = false := by rw [hR]; simp [wfV, wfN, wfsV, hT]
        rw [hfin]
        refine AW.ret (retI rfl ?_)
        simp [hT, a57_res, resOk, resP, resV, ARes.op, R2s, R2, R1s, R1, closeOk, closeV]
      subst hT
      have hF := True.intro
      repeat ((with_reducible show evIs _ (_ :: _) _ _); first | refine wQ ?_ | refine wF ?_ | refine wG ?_ | refine wT ?_ | refine wM ?_ | refine wS ?_ | refine wP ?_)
      clear hF
      repeat refine evDone ?_
      try (show AW _ _ _ _ _)
      by_cases hI : is = []
      case neg =>
        have hIl : ¬ (is.length : Int) = 0 := by have := List.length_pos_iff.2 hI; omega
        have hIp : (0 : Int) < (is.length : Int) := by have := List.length_pos_iff.2 hI; omega
        have hIq : 0 < is.length := List.length_pos_iff.2 hI
        have hF := And.intro (hI) (And.intro (hIl) (And.intro (hIp) (hIq)))
        repeat ((with_reducible show evIs _ (_ :: _) _ _); first | refine wQ ?_ | refine wF ?_ | refine wG ?_ | refine wT ?_ | refine wM ?_ | refine wS ?_ | refine wP ?_)
        clear hF
        repeat refine evDone ?_
        try (show AW _ _ _ _ _)
        have hfin : R = false := by rw [hR]; simp [wfV, wfN, wfsV, hI]
        rw [hfin]
        refine AW.ret (retI rfl ?_)
        simp [hI, hIl, hIp, hIq, a57_res, resOk, resP, resV, ARes.op, R2s, R2, R1s, R1, closeOk, closeV]
      subst hI
      have hF := True.intro
      repeat ((with_reducible show evIs _ (_ :: _) _ _); first | refine wQ ?_ | refine wF ?_ | refine wG ?_ | refine wT ?_ | refine wM ?_ | refine wS ?_ | refine wP ?_)
      clear hF
      repeat refine evDone ?_
      try (show AW _ _ _ _ _)
      by_cases hK : ks = []
      case neg =>
        have hKl : ¬ (ks.length : Int) = 0 := by have := List.length_pos_iff.2 hK; omega
        have hKp : (0 : Int) < (ks.length : Int) := by have := List.length_pos_iff.2 hK; omega
        have hKq : 0 < ks.length := List.length_pos_iff.2 hK
        have hF := And.intro (hK) (And.intro (hKl) (And.intro (hKp) (hKq)))
        repeat ((with_reducible show evIs _ (_ :: _) _ _); first | refine wQ ?_ | refine wF ?_ | refine wG ?_ | refine wT ?_ | refine wM ?_ | refine wS ?_ | refine wP ?_)
        clear hF
        repeat refine evDone ?_
        try (show AW _ _ _ _ _)
        have hfin : R = false := by rw [hR]; simp [wfV, wfN, wfsV, hK]
        rw [hfin]
        refine AW.ret (retI rfl ?_)
        simp [hK, hKl, hKp, hKq, a57_res, resOk, resP, resV, ARes.op, R2s, R2, R1s, R1, closeOk, closeV]
      subst hK
      have hF := True.intro
      repeat ((with_reducible show evIs _ (_ :: _) _ _); first | refine wQ ?_ | refine wF ?_ | refine wG ?_ | refine wT ?_ | refine wM ?_ | refine wS ?_ | refine wP ?_)
      clear hF
      repeat refine evDone ?_
      try (show AW _ _ _ _ _)
      have hF := True.intro
      repeat ((with_reducible show evIs _ (_ :: _) _ _); first | refine wQ ?_ | refine wF ?_ | refine wG ?_ | refine wT ?_ | refine wM ?_ | refine wS ?_ | refine wP ?_)
      clear hF
      repeat refine evDone ?_
      try (show AW _ _ _ _ _)
      have hfin : R = true := by rw [hR]; simp [wfV, wfN, wfsV]
      rw [hfin]
      refine AW.ret (retI rfl ?_)
      simp [a57_res, resOk, resP, resV, ARes.op, R2s, R2, R1s, R1, closeOk, closeV]
    have hF := And.intro (hN) (hN1)
    repeat ((with_reducible show evIs _ (_ :: _) _ _); first | refine wQ ?_ | refine wF ?_ | refine wG ?_ | refine wT ?_ | refine wM ?_ | refine wS ?_ | refine wP ?_)
    clear hF
    repeat refine evDone ?_
    try (show AW _ _ _ _ _)
    have hfin : R = false := by rw [hR]; simp [wfV, wfN, wfsV, hN, hN1]
    rw [hfin]
    refine AW.ret (retI rfl ?_)
    simp [hN, hN1, a57_res, resOk, resP, resV, ARes.op, R2s, R2, R1s, R1, closeOk, closeV]
  have hF := hk1
  repeat ((with_reducible show evIs _ (_ :: _) _ _); first | refine wQ ?_ | refine wF ?_ | refine wG ?_ | refine wT ?_ | refine wM ?_ | refine wS ?_ | refine wP ?_)
  clear hF
  repeat refine evDone ?_
  try (show AW _ _ _ _ _)
  repeat refine AW.seq ?_
  refine AW.condF (by simp [hk1]) (by simp [hk1]) ?_
  repeat refine AW.seq ?_
  refine AW.reg ?_
  by_cases hk2 : k = 2
  case pos =>
    subst hk2
    have hF := True.intro
    repeat ((with_reducible show evIs _ (_ :: _) _ _); first | refine wQ ?_ | refine wF ?_ | refine wG ?_ | refine wT ?_ | refine wM ?_ | refine wS ?_ | refine wP ?_)
    clear hF
    repeat refine evDone ?_
    try (show AW _ _ _ _ _)
    repeat refine AW.seq ?_
    refine AW.condT (by simp []) (by simp []) ?_
    repeat refine AW.seq ?_
    refine AW.reg ?_
    have hF := True.intro
    repeat ((with_reducible show evIs _ (_ :: _) _ _); first | refine wQ ?_ | refine wF ?_ | refine wG ?_ | refine wT ?_ | refine wM ?_ | refine wS ?_ | refine wP ?_)
    clear hF
    repeat refine evDone ?_
    try (show AW _ _ _ _ _)
    by_cases hT : t = ⟨#[]⟩
    case neg =>
      have hF := hT
      repeat ((with_reducible show evIs _ (_ :: _) _ _); first | refine wQ ?_ | refine wF ?_ | refine wG ?_ | refine wT ?_ | refine wM ?_ | refine wS ?_ | refine wP ?_)
      clear hF
      repeat refine evDone ?_
      try (show AW _ _ _ _ _)
      have hfin : R = false := by rw [hR]; simp [wfV, wfN, wfsV, hT]
      rw [hfin]
      refine AW.ret (retI rfl ?_)
      simp [hT, a57_res, resOk, resP, resV, ARes.op, R2s, R2, R1s, R1, closeOk, closeV]
    subst hT
    have hF := True.intro
    repeat ((with_reducible show evIs _ (_ :: _) _ _); first | refine wQ ?_ | refine wF ?_ | refine wG ?_ | refine wT ?_ | refine wM ?_ | refine wS ?_ | refine wP ?_)
    clear hF
    repeat refine evDone ?_
    try (show AW _ _ _ _ _)
    by_cases hI : is = []
    case neg =>
      have hIl : ¬ (is.length : Int) = 0 := by have := List.length_pos_iff.2 hI; omega
      have hIp : (0 : Int) < (is.length : Int) := by have := List.length_pos_iff.2 hI; omega
      have hIq : 0 < is.length := List.length_pos_iff.2 hI
      have hF := And.intro (hI) (And.intro (hIl) (And.intro (hIp) (hIq)))
      repeat ((with_reducible show evIs _ (_ :: _) _ _); first | refine wQ ?_ | refine wF ?_ | refine wG ?_ | refine wT ?_ | refine wM ?_ | refine wS ?_ | refine wP ?_)
      clear hF
      repeat refine evDone ?_
      try (show AW _ _ _ _ _)
      have hfin : R = false := by rw [hR]; simp [wfV, wfN, wfsV, hI]
      rw [hfin]
      refine AW.ret (retI rfl ?_)
      simp [hI, hIl, hIp, hIq, a57_res, resOk, resP, resV, ARes.op, R2s, R2, R1s, R1, closeOk, closeV]
    subst hI
    have hF := True.intro
    repeat ((with_reducible show evIs _ (_ :: _) _ _); first | refine wQ ?_ | refine wF ?_ | refine wG ?_ | refine wT ?_ | refine wM ?_ | refine wS ?_ | refine wP ?_)
    clear hF
    repeat refine evDone ?_
    try (show AW _ _ _ _ _)
    by_cases hK : ks = []
    case neg =>
      have hKl : ¬ (ks.length : Int) = 0 := by have := List.length_pos_iff.2 hK; omega
      have hKp : (0 : Int) < (ks.length : Int) := by have := List.length_pos_iff.2 hK; omega
      have hKq : 0 < ks.length := List.length_pos_iff.2 hK
      have hF := And.intro (hK) (And.intro (hKl) (And.intro (hKp) (hKq)))
      repeat ((with_reducible show evIs _ (_ :: _) _ _); first | refine wQ ?_ | refine wF ?_ | refine wG ?_ | refine wT ?_ | refine wM ?_ | refine wS ?_ | refine wP ?_)
      clear hF
      repeat refine evDone ?_
      try (show AW _ _ _ _ _)
      have hfin : R = false := by rw [hR]; simp [wfV, wfN, wfsV, hK]
      rw [hfin]
      refine AW.ret (retI rfl ?_)
      simp [hK, hKl, hKp, hKq, a57_res, resOk, resP, resV, ARes.op, R2s, R2, R1s, R1, closeOk, closeV]
    subst hK
    have hF := True.intro
    repeat ((with_reducible show evIs _ (_ :: _) _ _); first | refine wQ ?_ | refine wF ?_ | refine wG ?_ | refine wT ?_ | refine wM ?_ | refine wS ?_ | refine wP ?_)
    clear hF
    repeat refine evDone ?_
    try (show AW _ _ _ _ _)
    have hF := True.intro
    repeat ((with_reducible show evIs _ (_ :: _) _ _); first | refine wQ ?_ | refine wF ?_ | refine wG ?_ | refine wT ?_ | refine wM ?_ | refine wS ?_ | refine wP ?_)
    clear hF
    repeat refine evDone ?_
    try (show AW _ _ _ _ _)
    have hfin : R = true := by rw [hR]; simp [wfV, wfN, wfsV]
    rw [hfin]
    refine AW.ret (retI rfl ?_)
    simp [a57_res, resOk, resP, resV, ARes.op, R2s, R2, R1s, R1, closeOk, closeV]
  have hF := hk2
  repeat ((with_reducible show evIs _ (_ :: _) _ _); first | refine wQ ?_ | refine wF ?_ | refine wG ?_ | refine wT ?_ | refine wM ?_ | refine wS ?_ | refine wP ?_)
  clear hF
  repeat refine evDone ?_
  try (show AW _ _ _ _ _)
  repeat refine AW.seq ?_
  refine AW.condF (by simp [hk2]) (by simp [hk2]) ?_
  repeat refine AW.seq ?_
  refine AW.reg ?_
  by_cases hk6 : k = 6
  case pos =>
    subst hk6
    have hF := True.intro
    repeat ((with_reducible show evIs _ (_ :: _) _ _); first | refine wQ ?_ | refine wF ?_ | refine wG ?_ | refine wT ?_ | refine wM ?_ | refine wS ?_ | refine wP ?_)
    clear hF
    repeat refine evDone ?_
    try (show AW _ _ _ _ _)
    repeat refine AW.seq ?_
    refine AW.condT (by simp []) (by simp []) ?_
    repeat refine AW.seq ?_
    refine AW.reg ?_
    have hF := True.intro
    repeat ((with_reducible show evIs _ (_ :: _) _ _); first | refine wQ ?_ | refine wF ?_ | refine wG ?_ | refine wT ?_ | refine wM ?_ | refine wS ?_ | refine wP ?_)
    clear hF
    repeat refine evDone ?_
    try (show AW _ _ _ _ _)
    cases f with
    | false =>
      have hF := True.intro
      repeat ((with_reducible show evIs _ (_ :: _) _ _); first | refine wQ ?_ | refine wF ?_ | refine wG ?_ | refine wT ?_ | refine wM ?_ | refine wS ?_ | refine wP ?_)
      clear hF
      repeat refine evDone ?_
      try (show AW _ _ _ _ _)
      have hfin : R = false := by rw [hR]; simp [wfV, wfN, wfsV]
      rw [hfin]
      refine AW.ret (retI rfl ?_)
      simp [a57_res, resOk, resP, resV, ARes.op, R2s, R2, R1s, R1, closeOk, closeV]
    | true =>
      have hF := True.intro
      repeat ((with_reducible show evIs _ (_ :: _) _ _); first | refine wQ ?_ | refine wF ?_ | refine wG ?_ | refine wT ?_ | refine wM ?_ | refine wS ?_ | refine wP ?_)
      clear hF
      repeat refine evDone ?_
      try (show AW _ _ _ _ _)
      by_cases hP : 0 ≤ n
      case neg =>
        have hF := hP
        repeat ((with_reducible show evIs _ (_ :: _) _ _); first | refine wQ ?_ | refine wF ?_ | refine wG ?_ | refine wT ?_ | refine wM ?_ | refine wS ?_ | refine wP ?_)
        clear hF
        repeat refine evDone ?_
        try (show AW _ _ _ _ _)
        have hfin : R = false := by rw [hR]; simp [wfV, wfN, wfsV, hP]
        rw [hfin]
        refine AW.ret (retI rfl ?_)
        simp [hP, a57_res, resOk, resP, resV, ARes.op, R2s, R2, R1s, R1, closeOk, closeV]
      have hF := hP
      repeat ((with_reducible show evIs _ (_ :: _) _ _); first | refine wQ ?_ | refine wF ?_ | refine wG ?_ | refine wT ?_ | refine wM ?_ | refine wS ?_ | refine wP ?_)
      clear hF
      repeat refine evDone ?_
      try (show AW _ _ _ _ _)
      by_cases hT : t = ⟨#[]⟩
      case neg =>
        have hF := And.intro (hP) (hT)
        repeat ((with_reducible show evIs _ (_ :: _) _ _); first | refine wQ ?_ | refine wF ?_ | refine wG ?_ | refine wT ?_ | refine wM ?_ | refine wS ?_ | refine wP ?_)
        clear hF
        repeat refine evDone ?_
        try (show AW _ _ _ _ _)
        have hfin : R = false := by rw [hR]; simp [wfV, wfN, wfsV, hP, hT]
        rw [hfin]
        refine AW.ret (retI rfl ?_)
        simp [hP, hT, a57_res, resOk, resP, resV, ARes.op, R2s, R2, R1s, R1, closeOk, closeV]
      subst hT
      have hF := hP
      repeat ((with_reducible show evIs _ (_ :: _) _ _); first | refine wQ ?_ | refine wF ?_ | refine wG ?_ | refine wT ?_ | refine wM ?_ | refine wS ?_ | refine wP ?_)
      clear hF
      repeat refine evDone ?_
      try (show AW _ _ _ _ _)
      by_cases hI : is = []
      case neg =>
        have hIl : ¬ (is.length : Int) = 0 := by have := List.length_pos_iff.2 hI; omega
        have hIp : (0 : Int) < (is.length : Int) := by have := List.length_pos_iff.2 hI; omega
        have hIq : 0 < is.length := List.length_pos_iff.2 hI
        have hF := And.intro (hP) (And.intro (hI) (And.intro (hIl) (And.intro (hIp) (hIq))))
        repeat ((with_reducible show evIs _ (_ :: _) _ _); first | refine wQ ?_ | refine wF ?_ | refine wG ?_ | refine wT ?_ | refine wM ?_ | refine wS ?_ | refine wP ?_)
        clear hF
        repeat refine evDone ?_
        try (show AW _ _ _ _ _)
        have hfin : R = false := by rw [hR]; simp [wfV, wfN, wfsV, hP, hI]
        rw [hfin]
        refine AW.ret (retI rfl ?_)
        simp [hP, hI, hIl, hIp, hIq, a57_res, resOk, resP, resV, ARes.op, R2s, R2, R1s, R1, closeOk, closeV]
      subst hI
      have hF := hP
      repeat ((with_reducible show evIs _ (_ :: _) _ _); first | refine wQ ?_ | refine wF ?_ | refine wG ?_ | refine wT ?_ | refine wM ?_ | refine wS ?_ | refine wP ?_)
      clear hF
      repeat refine evDone ?_
      try (show AW _ _ _ _ _)
      by_cases hK : ks = []
      case neg =>
        have hKl : ¬ (ks.length : Int) = 0 := by have := List.length_pos_iff.2 hK; omega
        have hKp : (0 : Int) < (ks.length : Int) := by have := List.length_pos_iff.2 hK; omega
        have hKq : 0 < ks.length := List.length_pos_iff.2 hK
        have hF := And.intro (hP) (And.intro (hK) (And.intro (hKl) (And.intro (hKp) (hKq))))
        repeat ((with_reducible show evIs _ (_ :: _) _ _); first | refine wQ ?_ | refine wF ?_ | refine wG ?_ | refine wT ?_ | refine wM ?_ | refine wS ?_ | refine wP ?_)
        clear hF
        repeat refine evDone ?_
        try (show AW _ _ _ _ _)
        have hfin : R = false := by rw [hR]; simp [wfV, wfN, wfsV, hP, hK]
        rw [hfin]
        refine AW.ret (retI rfl ?_)
        simp [hP, hK, hKl, hKp, hKq, a57_res, resOk, resP, resV, ARes.op, R2s, R2, R1s, R1, closeOk, closeV]
      subst hK
      have hF := hP
      repeat ((with_reducible show evIs _ (_ :: _) _ _); first | refine wQ ?_ | refine wF ?_ | refine wG ?_ | refine wT ?_ | refine wM ?_ | refine wS ?_ | refine wP ?_)
      clear hF
      repeat refine evDone ?_
      try (show AW _ _ _ _ _)
      have hF := hP
      repeat ((with_reducible show evIs _ (_ :: _) _ _); first | refine wQ ?_ | refine wF ?_ | refine wG ?_ | refine wT ?_ | refine wM ?_ | refine wS ?_ | refine wP ?_)
      clear hF
      repeat refine evDone ?_
      try (show AW _ _ _ _ _)
      have hfin : R = true := by rw [hR]; simp [wfV, wfN, wfsV, hP]
      rw [hfin]
      refine AW.ret (retI rfl ?_)
      simp [hP, a57_res, resOk, resP, resV, ARes.op, R2s, R2, R1s, R1, closeOk, closeV]
  have hF := hk6
  repeat ((with_reducible show evIs _ (_ :: _) _ _); first | refine wQ ?_ | refine wF ?_ | refine wG ?_ | refine wT ?_ | refine wM ?_ | refine wS ?_ | refine wP ?_)
  clear hF
  repeat refine evDone ?_
  try (show AW _ _ _ _ _)
  repeat refine AW.seq ?_
  refine AW.condF (by simp [hk6]) (by simp [hk6]) ?_
  repeat refine AW.seq ?_
  refine AW.reg ?_
  by_cases hk3 : k = 3
  case pos =>
    subst hk3
    have hF := True.intro
    repeat ((with_reducible show evIs _ (_ :: _) _ _); first | refine wQ ?_ | refine wF ?_ | refine wG ?_ | refine wT ?_ | refine wM ?_ | refine wS ?_ | refine wP ?_)
    clear hF
    repeat refine evDone ?_
    try (show AW _ _ _ _ _)
    repeat refine AW.seq ?_
    refine AW.condT (by simp []) (by simp []) ?_
    repeat refine AW.seq ?_
    refine AW.reg ?_
    have hF := True.intro
    repeat ((with_reducible show evIs _ (_ :: _) _ _); first | refine wQ ?_ | refine wF ?_ | refine wG ?_ | refine wT ?_ | refine wM ?_ | refine wS ?_ | refine wP ?_)
    clear hF
    repeat refine evDone ?_
    try (show AW _ _ _ _ _)
    by_cases hN : n = 0
    case neg =>
      have hF := hN
      repeat ((with_reducible show evIs _ (_ :: _) _ _); first | refine wQ ?_ | refine wF ?_ | refine wG ?_ | refine wT ?_ | refine wM ?_ | refine wS ?_ | refine wP ?_)
      clear hF
      repeat refine evDone ?_
      try (show AW _ _ _ _ _)
      have hfin : R = false := by rw [hR]; simp [wfV, wfN, wfsV, hN]
      rw [hfin]
      refine AW.ret (retI rfl ?_)
      simp [hN, a57_res, resOk, resP, resV, ARes.op, R2s, R2, R1s, R1, closeOk, closeV]
    subst hN
    have hF := True.intro
    repeat ((with_reducible show evIs _ (_ :: _) _ _); first | refine wQ ?_ | refine wF ?_ | refine wG ?_ | refine wT ?_ | refine wM ?_ | refine wS ?_ | refine wP ?_)
    clear hF
    repeat refine evDone ?_
    try (show AW _ _ _ _ _)
    by_cases hI : is = []
    case neg =>
      have hIl : ¬ (is.length : Int) = 0 := by have := List.length_pos_iff.2 hI; omega
      have hIp : (0 : Int) < (is.length : Int) := by have := List.length_pos_iff.2 hI; omega
      have hIq : 0 < is.length := List.length_pos_iff.2 hI
      have hF := And.intro (hI) (And.intro (hIl) (And.intro (hIp) (hIq)))
      repeat ((with_reducible show evIs _ (_ :: _) _ _); first | refine wQ ?_ | refine wF ?_ | refine wG ?_ | refine wT ?_ | refine wM ?_ | refine wS ?_ | refine wP ?_)
      clear hF
      repeat refine evDone ?_
      try (show AW _ _ _ _ _)
      have hfin : R = false := by rw [hR]; simp [wfV, wfN, wfsV, hI]
      rw [hfin]
      refine AW.ret (retI rfl ?_)
      simp [hI, hIl, hIp, hIq, a57_res, resOk, resP, resV, ARes.op, R2s, R2, R1s, R1, closeOk, closeV]
    subst hI
    have hF := True.intro
    repeat ((with_reducible show evIs _ (_ :: _) _ _); first | refine wQ ?_ | refine wF ?_ | refine wG ?_ | refine wT ?_ | refine wM ?_ | refine wS ?_ | refine wP ?_)
    clear hF
    repeat refine evDone ?_
    try (show AW _ _ _ _ _)
    by_cases hK : ks = []
    case neg =>
      have hKl : ¬ (ks.length : Int) = 0 := by have := List.length_pos_iff.2 hK; omega
      have hKp : (0 : Int) < (ks.length : Int) := by have := List.length_pos_iff.2 hK; omega
      have hKq : 0 < ks.length := List.length_pos_iff.2 hK
      have hF := And.intro (hK) (And.intro (hKl) (And.intro (hKp) (hKq)))
      repeat ((with_reducible show evIs _ (_ :: _) _ _); first | refine wQ ?_ | refine wF ?_ | refine wG ?_ | refine wT ?_ | refine wM ?_ | refine wS ?_ | refine wP ?_)
      clear hF
      repeat refine evDone ?_
      try (show AW _ _ _ _ _)
      have hfin : R = false := by rw [hR]; simp [wfV, wfN, wfsV, hK]
      rw [hfin]
      refine AW.ret (retI rfl ?_)
      simp [hK, hKl, hKp, hKq, a57_res, resOk, resP, resV, ARes.op, R2s, R2, R1s, R1, closeOk, closeV]
    subst hK
    have hF := True.intro
    repeat ((with_reducible show evIs _ (_ :: _) _ _); first | refine wQ ?_ | refine wF ?_ | refine wG ?_ | refine wT ?_ | refine wM ?_ | refine wS ?_ | refine wP ?_)
    clear hF
    repeat refine evDone ?_
    try (show AW _ _ _ _ _)
    have hF := True.intro
    repeat ((with_reducible show evIs _ (_ :: _) _ _); first | refine wQ ?_ | refine wF ?_ | refine wG ?_ | refine wT ?_ | refine wM ?_ | refine wS ?_ | refine wP ?_)
    clear hF
    repeat refine evDone ?_
    try (show AW _ _ _ _ _)
    have hfin : R = true := by rw [hR]; simp [wfV, wfN, wfsV]
    rw [hfin]
    refine AW.ret (retI rfl ?_)
    simp [a57_res, resOk, resP, resV, ARes.op, R2s, R2, R1s, R1, closeOk, closeV]
  have hF := hk3
  repeat ((with_reducible show evIs _ (_ :: _) _ _); first | refine wQ ?_ | refine wF ?_ | refine wG ?_ | refine wT ?_ | refine wM ?_ | refine wS ?_ | refine wP ?_)
  clear hF
  repeat refine evDone ?_
  try (show AW _ _ _ _ _)
  repeat refine AW.seq ?_
  refine AW.condF (by simp [hk3]) (by simp [hk3]) ?_
  repeat refine AW.seq ?_
  refine AW.reg ?_
  by_cases hk4 : k = 4
  case pos =>
    subst hk4
    have hF := True.intro
    repeat ((with_reducible show evIs _ (_ :: _) _ _); first | refine wQ ?_ | refine wF ?_ | refine wG ?_ | refine wT ?_ | refine wM ?_ | refine wS ?_ | refine wP ?_)
    clear hF
    repeat refine evDone ?_
    try (show AW _ _ _ _ _)
    repeat refine AW.seq ?_
    refine AW.condT (by simp []) (by simp []) ?_
    repeat refine AW.seq ?_
    refine AW.reg ?_
    have hF := True.intro
    repeat ((with_reducible show evIs _ (_ :: _) _ _); first | refine wQ ?_ | refine wF ?_ | refine wG ?_ | refine wT ?_ | refine wM ?_ | refine wS ?_ | refine wP ?_)
    clear hF
    repeat refine evDone ?_
    try (show AW _ _ _ _ _)
    by_cases hN : n = 0
    case neg =>
      have hF := hN
      repeat ((with_reducible show evIs _ (_ :: _) _ _); first | refine wQ ?_ | refine wF ?_ | refine wG ?_ | refine wT ?_ | refine wM ?_ | refine wS ?_ | refine wP ?_)
      clear hF
      repeat refine evDone ?_
      try (show AW _ _ _ _ _)
      repeat refine AW.seq ?_
      refine AW.condT (by simp [hN]) (by simp [hN]) ?_
      repeat refine AW.seq ?_
      refine AW.reg ?_
      have hF := True.intro
      repeat ((with_reducible show evIs _ (_ :: _) _ _); first | refine wQ ?_ | refine wF ?_ | refine wG ?_ | refine wT ?_ | refine wM ?_ | refine wS ?_ | refine wP ?_)
      clear hF
      repeat refine evDone ?_
      try (show AW _ _ _ _ _)
      have hfin : R = false := by rw [hR]; simp [wfV, wfN, wfsV, hN]
      rw [hfin]
      refine AW.ret (retI rfl ?_)
      simp [hN, a57_res, resOk, resP, resV, ARes.op, R2s, R2, R1s, R1, closeOk, closeV]
    subst hN
    have hF := True.intro
    repeat ((with_reducible show evIs _ (_ :: _) _ _); first | refine wQ ?_ | refine wF ?_ | refine wG ?_ | refine wT ?_ | refine wM ?_ | refine wS ?_ | refine wP ?_)
    clear hF
    repeat refine evDone ?_
    try (show AW _ _ _ _ _)
    by_cases hT : t = ⟨#[]⟩
    case neg =>
      have hF := hT
      repeat ((with_reducible show evIs _ (_ :: _) _ _); first | refine wQ ?_ | refine wF ?_ | refine wG ?_ | refine wT ?_ | refine wM ?_ | refine wS ?_ | refine wP ?_)
      clear hF
      repeat refine evDone ?_
      try (show AW _ _ _ _ _)
      repeat refine AW.seq ?_
      refine AW.condT (by simp [hT]) (by simp [hT]) ?_
      repeat refine AW.seq ?_
      refine AW.reg ?_
      have hF := True.intro
      repeat ((with_reducible show evIs _ (_ :: _) _ _); first | refine wQ ?_ | refine wF ?_ | refine wG ?_ | refine wT ?_ | refine wM ?_ | refine wS ?_ | refine wP ?_)
      clear hF
      repeat refine evDone ?_
      try (show AW _ _ _ _ _)
      have hfin : R = false := by rw [hR]; simp [wfV, wfN, wfsV, hT]
      rw [hfin]
      refine AW.ret (retI rfl ?_)
      simp [hT, a57_res, resOk, resP, resV, ARes.op, R2s, R2, R1s, R1, closeOk, closeV]
    subst hT
    have hF := True.intro
    repeat ((with_reducible show evIs _ (_ :: _) _ _); first | refine wQ ?_ | refine wF ?_ | refine wG ?_ | refine wT ?_ | refine wM ?_ | refine wS ?_ | refine wP ?_)
    clear hF
    repeat refine evDone ?_
    try (show AW _ _ _ _ _)
    by_cases hK : ks = []
    case neg =>
      have hKl : ¬ (ks.length : Int) = 0 := by have := List.length_pos_iff.2 hK; omega
      have hKp : (0 : Int) < (ks.length : Int) := by have := List.length_pos_iff.2 hK; omega
      have hKq : 0 < ks.length := List.length_pos_iff.2 hK
      have hF := And.intro (hK) (And.intro (hKl) (And.intro (hKp) (hKq)))
      repeat ((with_reducible show evIs _ (_ :: _) _ _); first | refine wQ ?_ | refine wF ?_ | refine wG ?_ | refine wT ?_ | refine wM ?_ | refine wS ?_ | refine wP ?_)
      clear hF
      repeat refine evDone ?_
      try (show AW _ _ _ _ _)
      repeat refine AW.seq ?_
      refine AW.condT (by simp [hK, hKl, hKp, hKq]) (by simp [hK, hKl, hKp, hKq]) ?_
      repeat refine AW.seq ?_
      refine AW.reg ?_
      have hF := True.intro
      repeat ((with_reducible show evIs _ (_ :: _) _ _); first | refine wQ ?_ | refine wF ?_ | refine wG ?_ | refine wT ?_ | refine wM ?_ | refine wS ?_ | refine wP ?_)
      clear hF
      repeat refine evDone ?_
      try (show AW _ _ _ _ _)
      have hfin : R = false := by rw [hR]; simp [wfV, wfN, wfsV, hK]
      rw [hfin]
      refine AW.ret (retI rfl ?_)
      simp [hK, hKl, hKp, hKq, a57_res, resOk, resP, resV, ARes.op, R2s, R2, R1s, R1, closeOk, closeV]
    subst hK
    have hF := True.intro
    repeat ((with_reducible show evIs _ (_ :: _) _ _); first | refine wQ ?_ | refine wF ?_ | refine wG ?_ | refine wT ?_ | refine wM ?_ | refine wS ?_ | refine wP ?_)
    clear hF
    repeat refine evDone ?_
    try (show AW _ _ _ _ _)
    have hF := True.intro
    repeat ((with_reducible show evIs _ (_ :: _) _ _); first | refine wQ ?_ | refine wF ?_ | refine wG ?_ | refine wT ?_ | refine wM ?_ | refine wS ?_ | refine wP ?_)
    clear hF
    repeat refine evDone ?_
    try (show AW _ _ _ _ _)
    repeat refine AW.seq ?_
    refine AW.condF (by simp []) (by simp []) ?_
    refine AW.skip ?_
    show AW _ _ _ _ _
    repeat refine AW.seq ?_
    refine AW.reg ?_
    have hF := True.intro
    repeat ((with_reducible show evIs _ (_ :: _) _ _); first | refine wQ ?_ | refine wF ?_ | refine wG ?_ | refine wT ?_ | refine wM ?_ | refine wS ?_ | refine wP ?_)
    clear hF
    repeat refine evDone ?_
    try (show AW _ _ _ _ _)
    have hF := hma
    refine wC (hA := h87) ?_
    clear hF
    cases hws : wfsV f is with
    | true =>
      have hany : is.any (fun x => !wfV f x) = false := by have := wfsV_any f is; rw [hws] at this; simpa using this
      have hF := hany
      repeat ((with_reducible show evIs _ (_ :: _) _ _); first | refine wQ ?_ | refine wF ?_ | refine wG ?_ | refine wT ?_ | refine wM ?_ | refine wS ?_ | refine wP ?_)
      clear hF
      repeat refine evDone ?_
      try (show AW _ _ _ _ _)
      have hfin : R = true := by rw [hR]; simp [wfV, wfN, wfsV, hws]
      rw [hfin]
      refine AW.ret (retI rfl ?_)
      simp [a57_res, resOk, resP, resV, ARes.op, R2s, R2, R1s, R1, closeOk, closeV]
    | false =>
      have hany : is.any (fun x => !wfV f x) = true := by have := wfsV_any f is; rw [hws] at this; simpa using this
      have hF := hany
      repeat ((with_reducible show evIs _ (_ :: _) _ _); first | refine wQ ?_ | refine wF ?_ | refine wG ?_ | refine wT ?_ | refine wM ?_ | refine wS ?_ | refine wP ?_)
      clear hF
      repeat refine evDone ?_
      try (show AW _ _ _ _ _)
      have hfin : R = false := by rw [hR]; simp [wfV, wfN, wfsV, hws]
      rw [hfin]
      refine AW.ret (retI rfl ?_)
      simp [a57_res, resOk, resP, resV, ARes.op, R2s, R2, R1s, R1, closeOk, closeV]
  have hF := hk4
  repeat ((with_reducible show evIs _ (_ :: _) _ _); first | refine wQ ?_ | refine wF ?_ | refine wG ?_ | refine wT ?_ | refine wM ?_ | refine wS ?_ | refine wP ?_)
  clear hF
  repeat refine evDone ?_
  try (show AW _ _ _ _ _)
  repeat refine AW.seq ?_
  refine AW.condF (by simp [hk4]) (by simp [hk4]) ?_
  repeat refine AW.seq ?_
  refine AW.reg ?_
  by_cases hk5 : k = 5
  case pos =>
    subst hk5
    have hF := True.intro
    repeat ((with_reducible show evIs _ (_ :: _) _ _); first | refine wQ ?_ | refine wF ?_ | refine wG ?_ | refine wT ?_ | refine wM ?_ | refine wS ?_ | refine wP ?_)
    clear hF
    repeat refine evDone ?_
    try (show AW _ _ _ _ _)
    repeat refine AW.seq ?_
    refine AW.condT (by simp []) (by simp []) ?_
    repeat refine AW.seq ?_
    refine AW.reg ?_
    have hF := True.intro
    repeat ((with_reducible show evIs _ (_ :: _) _ _); first | refine wQ ?_ | refine wF ?_ | refine wG ?_ | refine wT ?_ | refine wM ?_ | refine wS ?_ | refine wP ?_)
    clear hF
    repeat refine evDone ?_
    try (show AW _ _ _ _ _)
    by_cases hN : n = 0
    case neg =>
      have hF := hN
      repeat ((with_reducible show evIs _ (_ :: _) _ _); first | refine wQ ?_ | refine wF ?_ | refine wG ?_ | refine wT ?_ | refine wM ?_ | refine wS ?_ | refine wP ?_)
      clear hF
      repeat refine evDone ?_
      try (show AW _ _ _ _ _)
      repeat refine AW.seq ?_
      refine AW.condT (by simp [hN]) (by simp [hN]) ?_
      repeat refine AW.seq ?_
      refine AW.reg ?_
      have hF := True.intro
      repeat ((with_reducible show evIs _ (_ :: _) _ _); first | refine wQ ?_ | refine wF ?_ | refine wG ?_ | refine wT ?_ | refine wM ?_ | refine wS ?_ | refine wP ?_)
      clear hF
      repeat refine evDone ?_
      try (show AW _ _ _ _ _)
      have hfin : R = false := by rw [hR]; simp [wfV, wfN, wfsV, hN]
      rw [hfin]
      refine AW.ret (retI rfl ?_)
      simp [hN, a57_res, resOk, resP, resV, ARes.op, R2s, R2, R1s, R1, closeOk, closeV]
    subst hN
    have hF := True.intro
    repeat ((with_reducible show evIs _ (_ :: _) _ _); first | refine wQ ?_ | refine wF ?_ | refine wG ?_ | refine wT ?_ | refine wM ?_ | refine wS ?_ | refine wP ?_)
    clear hF
    repeat refine evDone ?_
    try (show AW _ _ _ _ _)
    by_cases hT : t = ⟨#[]⟩
    case neg =>
      have hF := hT
      repeat ((with_reducible show evIs _ (_ :: _) _ _); first | refine wQ ?_ | refine wF ?_ | refine wG ?_ | refine wT ?_ | refine wM ?_ | refine wS ?_ | refine wP ?_)
      clear hF
      repeat refine evDone ?_
      try (show AW _ _ _ _ _)
      repeat refine AW.seq ?_
      refine AW.condT (by simp [hT]) (by simp [hT]) ?_
      repeat refine AW.seq ?_
      refine AW.reg ?_
      have hF := True.intro
      repeat ((with_reducible show evIs _ (_ :: _) _ _); first | refine wQ ?_ | refine wF ?_ | refine wG ?_ | refine wT ?_ | refine wM ?_ | refine wS ?_ | refine wP ?_)
      clear hF
      repeat refine evDone ?_
      try (show AW _ _ _ _ _)
      have hfin : R = false := by rw [hR]; simp [wfV, wfN, wfsV, hT]
      rw [hfin]
      refine AW.ret (retI rfl ?_)
      simp [hT, a57_res, resOk, resP, resV, ARes.op, R2s, R2, R1s, R1, closeOk, closeV]
    subst hT
    have hF := True.intro
    repeat ((with_reducible show evIs _ (_ :: _) _ _); first | refine wQ ?_ | refine wF ?_ | refine wG ?_ | refine wT ?_ | refine wM ?_ | refine wS ?_ | refine wP ?_)
    clear hF
    repeat refine evDone ?_
    try (show AW _ _ _ _ _)
    by_cases hL : ks.length = is.length
    case neg =>
      have hLi : ¬ (ks.length : Int) = (is.length : Int) := by omega
      have hF := And.intro (hL) (hLi)
      repeat ((with_reducible show evIs _ (_ :: _) _ _); first | refine wQ ?_ | refine wF ?_ | refine wG ?_ | refine wT ?_ | refine wM ?_ | refine wS ?_ | refine wP ?_)
      clear hF
      repeat refine evDone ?_
      try (show AW _ _ _ _ _)
      repeat refine AW.seq ?_
      refine AW.condT (by simp [hL, hLi]) (by simp [hL, hLi]) ?_
      repeat refine AW.seq ?_
      refine AW.reg ?_
      have hF := True.intro
      repeat ((with_reducible show evIs _ (_ :: _) _ _); first | refine wQ ?_ | refine wF ?_ | refine wG ?_ | refine wT ?_ | refine wM ?_ | refine wS ?_ | refine wP ?_)
      clear hF
      repeat refine evDone ?_
      try (show AW _ _ _ _ _)
      have hfin : R = false := by rw [hR]; simp [wfV, wfN, wfsV, hL]
      rw [hfin]
      refine AW.ret (retI rfl ?_)
      simp [hL, hLi, a57_res, resOk, resP, resV, ARes.op, R2s, R2, R1s, R1, closeOk, closeV]
    have hF := hL
    repeat ((with_reducible show evIs _ (_ :: _) _ _); first | refine wQ ?_ | refine wF ?_ | refine wG ?_ | refine wT ?_ | refine wM ?_ | refine wS ?_ | refine wP ?_)
    clear hF
    repeat refine evDone ?_
    try (show AW _ _ _ _ _)
    have hF := hL
    repeat ((with_reducible show evIs _ (_ :: _) _ _); first | refine wQ ?_ | refine wF ?_ | refine wG ?_ | refine wT ?_ | refine wM ?_ | refine wS ?_ | refine wP ?_)
    clear hF
    repeat refine evDone ?_
    try (show AW _ _ _ _ _)
    have hF := hL
    refine wC (hA := h86) ?_
    clear hF
    cases hr : rising ks with
    | false =>
      have hF := hL
      repeat ((with_reducible show evIs _ (_ :: _) _ _); first | refine wQ ?_ | refine wF ?_ | refine wG ?_ | refine wT ?_ | refine wM ?_ | refine wS ?_ | refine wP ?_)
      clear hF
      repeat refine evDone ?_
      try (show AW _ _ _ _ _)
      repeat refine AW.seq ?_
      refine AW.condT (by simp []) (by simp []) ?_
      repeat refine AW.seq ?_
      refine AW.reg ?_
      have hF := True.intro
      repeat ((with_reducible show evIs _ (_ :: _) _ _); first | refine wQ ?_ | refine wF ?_ | refine wG ?_ | refine wT ?_ | refine wM ?_ | refine wS ?_ | refine wP ?_)
      clear hF
      repeat refine evDone ?_
      try (show AW _ _ _ _ _)
      have hfin : R = false := by rw [hR]; simp [wfV, wfN, wfsV, hL, hr]
      rw [hfin]
      refine AW.ret (retI rfl ?_)
      simp [a57_res, resOk, resP, resV, ARes.op, R2s, R2, R1s, R1, closeOk, closeV]
    | true =>
      have hF := hL
      repeat ((with_reducible show evIs _ (_ :: _) _ _); first | refine wQ ?_ | refine wF ?_ | refine wG ?_ | refine wT ?_ | refine wM ?_ | refine wS ?_ | refine wP ?_)
      clear hF
      repeat refine evDone ?_
      try (show AW _ _ _ _ _)
      repeat refine AW.seq ?_
      refine AW.condF (by simp []) (by simp []) ?_
      refine AW.skip ?_
      show AW _ _ _ _ _
      repeat refine AW.seq ?_
      refine AW.reg ?_
      have hF := True.intro
      repeat ((with_reducible show evIs _ (_ :: _) _ _); first | refine wQ ?_ | refine wF ?_ | refine wG ?_ | refine wT ?_ | refine wM ?_ | refine wS ?_ | refine wP ?_)
      clear hF
      repeat refine evDone ?_
      try (show AW _ _ _ _ _)
      have hF := hma
      refine wC (hA := h87) ?_
      clear hF
      cases hws : wfsV f is with
      | true =>
        have hany : is.any (fun x => !wfV f x) = false := by have := wfsV_any f is; rw [hws] at this; simpa using this
        have hF := hany
        repeat ((with_reducible show evIs _ (_ :: _) _ _); first | refine wQ ?_ | refine wF ?_ | refine wG ?_ | refine wT ?_ | refine wM ?_ | refine wS ?_ | refine wP ?_)
        clear hF
        repeat refine evDone ?_
        try (show AW _ _ _ _ _)
        have hfin : R = true := by rw [hR]; simp [wfV, wfN, wfsV, hL, hr, hws]
        rw [hfin]
        refine AW.ret (retI rfl ?_)
        simp [a57_res, resOk, resP, resV, ARes.op, R2s, R2, R1s, R1, closeOk, closeV]
      | false =>
        have hany : is.any (fun x => !wfV f x) = true := by have := wfsV_any f is; rw [hws] at this; simpa using this
        have hF := hany
        repeat ((with_reducible show evIs _ (_ :: _) _ _); first | refine wQ ?_ | refine wF ?_ | refine wG ?_ | refine wT ?_ | refine wM ?_ | refine wS ?_ | refine wP ?_)
        clear hF
        repeat refine evDone ?_
        try (show AW _ _ _ _ _)
        have hfin : R = false := by rw [hR]; simp [wfV, wfN, wfsV, hL, hr, hws]
        rw [hfin]
        refine AW.ret (retI rfl ?_)
        simp [a57_res, resOk, resP, resV, ARes.op, R2s, R2, R1s, R1, closeOk, closeV]
  have hF := hk5
  repeat ((with_reducible show evIs _ (_ :: _) _ _); first | refine wQ ?_ | refine wF ?_ | refine wG ?_ | refine wT ?_ | refine wM ?_ | refine wS ?_ | refine wP ?_)
  clear hF
  repeat refine evDone ?_
  try (show AW _ _ _ _ _)
  repeat refine AW.seq ?_
  refine AW.condF (by simp [hk5]) (by simp [hk5]) ?_
  repeat refine AW.seq ?_
  refine AW.reg ?_
  have hF := True.intro
  repeat ((with_reducible show evIs _ (_ :: _) _ _); first | refine wQ ?_ | refine wF ?_ | refine wG ?_ | refine wT ?_ | refine wM ?_ | refine wS ?_ | refine wP ?_)
  clear hF
  repeat refine evDone ?_
  try (show AW _ _ _ _ _)
  have hfin : R = false := by rw [hR]; simp [wfV, wfN, wfsV, hk0, hk1, hk2, hk6, hk3, hk4, hk5]
  rw [hfin]
  refine AW.ret (retI rfl ?_)
  simp [a57_res, resOk, resP, resV, ARes.op, R2s, R2, R1s, R1, closeOk, closeV]
theorem f57 (f : Bool) (v : Val) (hok : v.okv) : ACall Try.prog 57 [v.av, .bool f] (· = .bool (wfV f v)) := by
  have key : ∀ (m : Nat) (v : Val), v.sz ≤ m → v.okv → ACall Try.prog 57 [v.av, .bool f] (· = .bool (wfV f v)) := by
    intro m
    induction m using Nat.strongRecOn with
    | _ m ih => exact fun v hm hok => f57_step m f (fun v' h => ih v'.sz h v' (Nat.le_refl _)) v hm hok
  exact key _ v (Nat.le_refl _) hok
end Go.Proofs.Ytdnpnokplfemfaa

set_option linter.unusedSimpArgs false
set_option linter.unusedVariables false
set_option maxHeartbeats 8000000
namespace Go.Proofs.Ytdnpnokplfemfaa
open Go Go.Amb Go.IntWalk

theorem f13w : ACall Try.prog 13 [.agg [.int .i64 2, .int .i64 9, .str ⟨#[]⟩, .sl .fro [], .sl .fro []], .agg [.int .i64 3, .int .i64 0, .str ⟨#[]⟩, .sl .fro [], .sl .fro []]] (· = .int .i64 (-1)) := by
  have h57a := f57 true (.mk 2 9 ⟨#[]⟩ [] []) ⟨by simp, by simp, trivial⟩
  have h57b := f57 true (.mk 3 0 ⟨#[]⟩ [] []) ⟨by simp, by simp, trivial⟩
  have hW1 : wfV true (.mk 2 9 ⟨#[]⟩ [] []) = true := by kernel_rfl
  have hW2 : wfV true (.mk 3 0 ⟨#[]⟩ [] []) = true := by kernel_rfl
  rw [hW1] at h57a
  rw [hW2] at h57b
  simp only [Val.av, avs, List.map_nil] at h57a h57b
  have h89 := f89 2 3
  have hc : cmpI 2 3 = -1 := by decide
  rw [hc] at h89
  have h58 : ACall Try.prog 58 [.agg [.int .i64 2, .int .i64 9, .str ⟨#[]⟩, .sl .fro [], .sl .fro []], .agg [.int .i64 3, .int .i64 0, .str ⟨#[]⟩, .sl .fro [], .sl .fro []]] (· = .int .i64 (-1)) := by
    refine a58_of (by simp) ?_
    have hF := True.intro
    repeat (first | ((with_reducible show AW _ _ _ _ _); first | refine AW.seq ?_ | refine AW.block ?_ | refine AW.reg ?_ | refine AW.draw ?_ | refine wct ?_ | refine wcf ?_ | (refine AW.skip ?_; show AW _ _ _ _ _)) | refine wD1 ?_ | refine wD2 ?_ | refine wE1 ?_ | refine wE2 ?_ | (refine wE3 ?_; intro _) | (refine wE4 ?_; intro _) | refine wN ?_ | ((with_reducible show evIs _ (_ :: _) _ _); first | refine wQ ?_ | refine wF ?_ | refine wG ?_ | refine wT ?_ | refine wM ?_ | refine wS ?_ | refine wP ?_ | refine wJ ?_ | refine wX ?_ | refine wY ?_ | refine wZ ?_ | refine wU ?_ | refine wCp ?_ | refine wCp0 ?_ | refine wApz ?_ | (refine wCap ?_; intro qc hqc)) | refine evDone ?_ | ((fail_if_success with_reducible show AW _ _ _ _ _); show AW _ _ _ _ _))
    clear hF
    try (show AW _ _ _ _ _)
    have hF := True.intro
    refine wC (hA := h89) ?_
    clear hF
    have hF := True.intro
    repeat (first | ((with_reducible show AW _ _ _ _ _); first | refine AW.seq ?_ | refine AW.block ?_ | refine AW.reg ?_ | refine AW.draw ?_ | refine wct ?_ | refine wcf ?_ | (refine AW.skip ?_; show AW _ _ _ _ _)) | refine wD1 ?_ | refine wD2 ?_ | refine wE1 ?_ | refine wE2 ?_ | (refine wE3 ?_; intro _) | (refine wE4 ?_; intro _) | refine wN ?_ | ((with_reducible show evIs _ (_ :: _) _ _); first | refine wQ ?_ | refine wF ?_ | refine wG ?_ | refine wT ?_ | refine wM ?_ | refine wS ?_ | refine wP ?_ | refine wJ ?_ | refine wX ?_ | refine wY ?_ | refine wZ ?_ | refine wU ?_ | refine wCp ?_ | refine wCp0 ?_ | refine wApz ?_ | (refine wCap ?_; intro qc hqc)) | refine evDone ?_ | ((fail_if_success with_reducible show AW _ _ _ _ _); show AW _ _ _ _ _))
    clear hF
    try (show AW _ _ _ _ _)
    refine AW.ret (retI rfl ?_)
    simp [a58_res, resOk, resP, resV, ARes.op, R2s, R2, R1s, R1, closeOk, closeV]
  refine a13_of (by simp) ?_
  have hF := True.intro
  repeat (first | ((with_reducible show AW _ _ _ _ _); first | refine AW.seq ?_ | refine AW.block ?_ | refine AW.reg ?_ | refine AW.draw ?_ | refine wct ?_ | refine wcf ?_ | (refine AW.skip ?_; show AW _ _ _ _ _)) | refine wD1 ?_ | refine wD2 ?_ | refine wE1 ?_ | refine wE2 ?_ | (refine wE3 ?_; intro _) | (refine wE4 ?_; intro _) | refine wN ?_ | ((with_reducible show evIs _ (_ :: _) _ _); first | refine wQ ?_ | refine wF ?_ | refine wG ?_ | refine wT ?_ | refine wM ?_ | refine wS ?_ | refine wP ?_ | refine wJ ?_ | refine wX ?_ | refine wY ?_ | refine wZ ?_ | refine wU ?_ | refine wCp ?_ | refine wCp0 ?_ | refine wApz ?_ | (refine wCap ?_; intro qc hqc)) | refine evDone ?_ | ((fail_if_success with_reducible show AW _ _ _ _ _); show AW _ _ _ _ _))
  clear hF
  try (show AW _ _ _ _ _)
  have hF := True.intro
  refine wC (hA := h57a) ?_
  clear hF
  have hF := True.intro
  repeat (first | ((with_reducible show AW _ _ _ _ _); first | refine AW.seq ?_ | refine AW.block ?_ | refine AW.reg ?_ | refine AW.draw ?_ | refine wct ?_ | refine wcf ?_ | (refine AW.skip ?_; show AW _ _ _ _ _)) | refine wD1 ?_ | refine wD2 ?_ | refine wE1 ?_ | refine wE2 ?_ | (refine wE3 ?_; intro _) | (refine wE4 ?_; intro _) | refine wN ?_ | ((with_reducible show evIs _ (_ :: _) _ _); first | refine wQ ?_ | refine wF ?_ | refine wG ?_ | refine wT ?_ | refine wM ?_ | refine wS ?_ | refine wP ?_ | refine wJ ?_ | refine wX ?_ | refine wY ?_ | refine wZ ?_ | refine wU ?_ | refine wCp ?_ | refine wCp0 ?_ | refine wApz ?_ | (refine wCap ?_; intro qc hqc)) | refine evDone ?_ | ((fail_if_success with_reducible show AW _ _ _ _ _); show AW _ _ _ _ _))
  clear hF
  try (show AW _ _ _ _ _)
  have hF := True.intro
  refine wC (hA := h57b) ?_
  clear hF
  have hF := True.intro
  repeat (first | ((with_reducible show AW _ _ _ _ _); first | refine AW.seq ?_ | refine AW.block ?_ | refine AW.reg ?_ | refine AW.draw ?_ | refine wct ?_ | refine wcf ?_ | (refine AW.skip ?_; show AW _ _ _ _ _)) | refine wD1 ?_ | refine wD2 ?_ | refine wE1 ?_ | refine wE2 ?_ | (refine wE3 ?_; intro _) | (refine wE4 ?_; intro _) | refine wN ?_ | ((with_reducible show evIs _ (_ :: _) _ _); first | refine wQ ?_ | refine wF ?_ | refine wG ?_ | refine wT ?_ | refine wM ?_ | refine wS ?_ | refine wP ?_ | refine wJ ?_ | refine wX ?_ | refine wY ?_ | refine wZ ?_ | refine wU ?_ | refine wCp ?_ | refine wCp0 ?_ | refine wApz ?_ | (refine wCap ?_; intro qc hqc)) | refine evDone ?_ | ((fail_if_success with_reducible show AW _ _ _ _ _); show AW _ _ _ _ _))
  clear hF
  try (show AW _ _ _ _ _)
  have hF := True.intro
  refine wC (hA := h58) ?_
  clear hF
  have hF := True.intro
  repeat (first | ((with_reducible show AW _ _ _ _ _); first | refine AW.seq ?_ | refine AW.block ?_ | refine AW.reg ?_ | refine AW.draw ?_ | refine wct ?_ | refine wcf ?_ | (refine AW.skip ?_; show AW _ _ _ _ _)) | refine wD1 ?_ | refine wD2 ?_ | refine wE1 ?_ | refine wE2 ?_ | (refine wE3 ?_; intro _) | (refine wE4 ?_; intro _) | refine wN ?_ | ((with_reducible show evIs _ (_ :: _) _ _); first | refine wQ ?_ | refine wF ?_ | refine wG ?_ | refine wT ?_ | refine wM ?_ | refine wS ?_ | refine wP ?_ | refine wJ ?_ | refine wX ?_ | refine wY ?_ | refine wZ ?_ | refine wU ?_ | refine wCp ?_ | refine wCp0 ?_ | refine wApz ?_ | (refine wCap ?_; intro qc hqc)) | refine evDone ?_ | ((fail_if_success with_reducible show AW _ _ _ _ _); show AW _ _ _ _ _))
  clear hF
  try (show AW _ _ _ _ _)
  refine AW.ret (retI rfl ?_)
  simp [a13_res, resOk, resP, resV, ARes.op, R2s, R2, R1s, R1, closeOk, closeV]
end Go.Proofs.Ytdnpnokplfemfaa
