/- Contracts of chapter 13's functions, part twenty-eight: marks are added and removed. -/
import Derived.Test.YtafkaofaioleiaaS3

set_option linter.unusedSimpArgs false
set_option linter.unusedVariables false
set_option maxHeartbeats 16000000
namespace Go.Proofs.Ytafkaofaioleiaa
open Go Go.Amb Go.IntWalk

def zeroF : Frame := ⟨0, 0, [], [], []⟩
/-- What Enter gives. -/
def enterF (f : Frame) (kind target slot : Int) : Frame × Int :=
  if kind = 1 then (if target < 0 then (zeroF, 2) else if slot < 0 then (zeroF, 2) else if (f.slots.length : Int) ≤ slot then (zeroF, 2) else (⟨f.fn, f.pc, f.slots, f.stack, f.marks ++ [⟨1, target, slot, f.stack.length, [], 0, 0, ⟨#[]⟩, [], []⟩]⟩, 0))
  else if kind = 2 then (if target = 0 then (if slot = 0 then (⟨f.fn, f.pc, f.slots, f.stack, f.marks ++ [⟨2, 0, 0, f.stack.length, [], 0, 0, ⟨#[]⟩, [], []⟩]⟩, 0) else (zeroF, 2)) else (zeroF, 2))
  else (zeroF, 11)
/-- What Leave gives. -/
def leaveF (f : Frame) : Frame × Int :=
  match f.marks.getLast? with
  | none => (zeroF, 16)
  | some m => if m.kind = 1 ∨ m.kind = 2 then (⟨f.fn, f.pc, f.slots, f.stack, f.marks.dropLast⟩, 0) else (zeroF, 16)
def resE : Frame × Int → AV
  | (g, e) => .tup [g.ao, .int .i64 e]
theorem f22 (f : Frame) (kind target slot : Int) (hok : f.ok2) : ACall Try.prog 22 [f.av, .int .i64 kind, .int .i64 target, .int .i64 slot] (· = resE (enterF f kind target slot)) := by
  have h44 := f44 100 f hok.1
  have hml : f.marks.length ≤ 12 := hok.2
  obtain ⟨fn, pc, slots, stack, marks⟩ := f
  simp only [Frame.av] at h44 ⊢
  dsimp only at hml
  have hby : (marks.length + 1) * 136 ≤ 140737488355328 := by omega
  have hby2 : marks.length + 1 ≤ 9223372036854775807 := by omega
  refine a22_of (by simp) ?_
  repeat refine AW.seq ?_
  refine AW.reg ?_
  have hF := True.intro
  repeat (first | refine wD1 ?_ | refine wD2 ?_ | refine wE1 ?_ | refine wE2 ?_ | (refine wE3 ?_; intro _) | (refine wE4 ?_; intro _) | refine wN ?_ | ((with_reducible show evIs _ (_ :: _) _ _); first | refine wQ ?_ | refine wF ?_ | refine wG ?_ | refine wT ?_ | refine wM ?_ | refine wS ?_ | refine wP ?_ | refine wJ ?_ | refine wX ?_ | refine wY ?_))
  clear hF
  repeat refine evDone ?_
  try (show AW _ _ _ _ _)
  by_cases k1 : kind = 1
  · subst k1
    by_cases h1 : target < 0
    · repeat refine AW.seq ?_
      refine AW.reg ?_
      have hF := True.intro
      repeat (first | refine wD1 ?_ | refine wD2 ?_ | refine wE1 ?_ | refine wE2 ?_ | (refine wE3 ?_; intro _) | (refine wE4 ?_; intro _) | refine wN ?_ | ((with_reducible show evIs _ (_ :: _) _ _); first | refine wQ ?_ | refine wF ?_ | refine wG ?_ | refine wT ?_ | refine wM ?_ | refine wS ?_ | refine wP ?_ | refine wJ ?_ | refine wX ?_ | refine wY ?_))
      clear hF
      repeat refine evDone ?_
      try (show AW _ _ _ _ _)
      repeat refine AW.seq ?_
      refine AW.block ?_
      repeat refine AW.seq ?_
      refine AW.reg ?_
      have hF := True.intro
      repeat (first | refine wD1 ?_ | refine wD2 ?_ | refine wE1 ?_ | refine wE2 ?_ | (refine wE3 ?_; intro _) | (refine wE4 ?_; intro _) | refine wN ?_ | ((with_reducible show evIs _ (_ :: _) _ _); first | refine wQ ?_ | refine wF ?_ | refine wG ?_ | refine wT ?_ | refine wM ?_ | refine wS ?_ | refine wP ?_ | refine wJ ?_ | refine wX ?_ | refine wY ?_))
      clear hF
      repeat refine evDone ?_
      try (show AW _ _ _ _ _)
      repeat refine AW.seq ?_
      refine AW.condT (by simp []) (by simp []) ?_
      repeat refine AW.seq ?_
      refine AW.reg ?_
      have hF := h1
      repeat (first | refine wD1 ?_ | refine wD2 ?_ | refine wE1 ?_ | refine wE2 ?_ | (refine wE3 ?_; intro _) | (refine wE4 ?_; intro _) | refine wN ?_ | ((with_reducible show evIs _ (_ :: _) _ _); first | refine wQ ?_ | refine wF ?_ | refine wG ?_ | refine wT ?_ | refine wM ?_ | refine wS ?_ | refine wP ?_ | refine wJ ?_ | refine wX ?_ | refine wY ?_))
      clear hF
      repeat refine evDone ?_
      try (show AW _ _ _ _ _)
      repeat refine AW.seq ?_
      refine AW.condT (by simp [h1]) (by simp [h1]) ?_
      repeat refine AW.seq ?_
      refine AW.reg ?_
      have hF := True.intro
      repeat (first | refine wD1 ?_ | refine wD2 ?_ | refine wE1 ?_ | refine wE2 ?_ | (refine wE3 ?_; intro _) | (refine wE4 ?_; intro _) | refine wN ?_ | ((with_reducible show evIs _ (_ :: _) _ _); first | refine wQ ?_ | refine wF ?_ | refine wG ?_ | refine wT ?_ | refine wM ?_ | refine wS ?_ | refine wP ?_ | refine wJ ?_ | refine wX ?_ | refine wY ?_))
      clear hF
      repeat refine evDone ?_
      try (show AW _ _ _ _ _)
      refine AW.ret (retI (r := resE (zeroF, 2)) (by simp [enterF, h1, zeroF]) ?_)
      simp [resE, zeroF, Frame.ao, avs, a22_res, resOk, resP, resV, ARes.op, R2s, R2, R1s, R1, closeOk, closeV]
    · by_cases h2 : slot < 0
      · repeat refine AW.seq ?_
        refine AW.reg ?_
        have hF := True.intro
        repeat (first | refine wD1 ?_ | refine wD2 ?_ | refine wE1 ?_ | refine wE2 ?_ | (refine wE3 ?_; intro _) | (refine wE4 ?_; intro _) | refine wN ?_ | ((with_reducible show evIs _ (_ :: _) _ _); first | refine wQ ?_ | refine wF ?_ | refine wG ?_ | refine wT ?_ | refine wM ?_ | refine wS ?_ | refine wP ?_ | refine wJ ?_ | refine wX ?_ | refine wY ?_))
        clear hF
        repeat refine evDone ?_
        try (show AW _ _ _ _ _)
        repeat refine AW.seq ?_
        refine AW.block ?_
        repeat refine AW.seq ?_
        refine AW.reg ?_
        have hF := True.intro
        repeat (first | refine wD1 ?_ | refine wD2 ?_ | refine wE1 ?_ | refine wE2 ?_ | (refine wE3 ?_; intro _) | (refine wE4 ?_; intro _) | refine wN ?_ | ((with_reducible show evIs _ (_ :: _) _ _); first | refine wQ ?_ | refine wF ?_ | refine wG ?_ | refine wT ?_ | refine wM ?_ | refine wS ?_ | refine wP ?_ | refine wJ ?_ | refine wX ?_ | refine wY ?_))
        clear hF
        repeat refine evDone ?_
        try (show AW _ _ _ _ _)
        repeat refine AW.seq ?_
        refine AW.condT (by simp []) (by simp []) ?_
        repeat refine AW.seq ?_
        refine AW.reg ?_
        have hF := And.intro (h1) (h2)
        repeat (first | refine wD1 ?_ | refine wD2 ?_ | refine wE1 ?_ | refine wE2 ?_ | (refine wE3 ?_; intro _) | (refine wE4 ?_; intro _) | refine wN ?_ | ((with_reducible show evIs _ (_ :: _) _ _); first | refine wQ ?_ | refine wF ?_ | refine wG ?_ | refine wT ?_ | refine wM ?_ | refine wS ?_ | refine wP ?_ | refine wJ ?_ | refine wX ?_ | refine wY ?_))
        clear hF
        repeat refine evDone ?_
        try (show AW _ _ _ _ _)
        repeat refine AW.seq ?_
        refine AW.condT (by simp [h1, h2]) (by simp [h1, h2]) ?_
        repeat refine AW.seq ?_
        refine AW.reg ?_
        have hF := True.intro
        repeat (first | refine wD1 ?_ | refine wD2 ?_ | refine wE1 ?_ | refine wE2 ?_ | (refine wE3 ?_; intro _) | (refine wE4 ?_; intro _) | refine wN ?_ | ((with_reducible show evIs _ (_ :: _) _ _); first | refine wQ ?_ | refine wF ?_ | refine wG ?_ | refine wT ?_ | refine wM ?_ | refine wS ?_ | refine wP ?_ | refine wJ ?_ | refine wX ?_ | refine wY ?_))
        clear hF
        repeat refine evDone ?_
        try (show AW _ _ _ _ _)
        refine AW.ret (retI (r := resE (zeroF, 2)) (by simp [enterF, h1, h2, zeroF]) ?_)
        simp [resE, zeroF, Frame.ao, avs, a22_res, resOk, resP, resV, ARes.op, R2s, R2, R1s, R1, closeOk, closeV]
      · by_cases h3 : (slots.length : Int) ≤ slot
        · repeat refine AW.seq ?_
          refine AW.reg ?_
          have hF := True.intro
          repeat (first | refine wD1 ?_ | refine wD2 ?_ | refine wE1 ?_ | refine wE2 ?_ | (refine wE3 ?_; intro _) | (refine wE4 ?_; intro _) | refine wN ?_ | ((with_reducible show evIs _ (_ :: _) _ _); first | refine wQ ?_ | refine wF ?_ | refine wG ?_ | refine wT ?_ | refine wM ?_ | refine wS ?_ | refine wP ?_ | refine wJ ?_ | refine wX ?_ | refine wY ?_))
          clear hF
          repeat refine evDone ?_
          try (show AW _ _ _ _ _)
          repeat refine AW.seq ?_
          refine AW.block ?_
          repeat refine AW.seq ?_
          refine AW.reg ?_
          have hF := True.intro
          repeat (first | refine wD1 ?_ | refine wD2 ?_ | refine wE1 ?_ | refine wE2 ?_ | (refine wE3 ?_; intro _) | (refine wE4 ?_; intro _) | refine wN ?_ | ((with_reducible show evIs _ (_ :: _) _ _); first | refine wQ ?_ | refine wF ?_ | refine wG ?_ | refine wT ?_ | refine wM ?_ | refine wS ?_ | refine wP ?_ | refine wJ ?_ | refine wX ?_ | refine wY ?_))
          clear hF
          repeat refine evDone ?_
          try (show AW _ _ _ _ _)
          repeat refine AW.seq ?_
          refine AW.condT (by simp []) (by simp []) ?_
          repeat refine AW.seq ?_
          refine AW.reg ?_
          have hF := And.intro (h1) (And.intro (h2) (h3))
          repeat (first | refine wD1 ?_ | refine wD2 ?_ | refine wE1 ?_ | refine wE2 ?_ | (refine wE3 ?_; intro _) | (refine wE4 ?_; intro _) | refine wN ?_ | ((with_reducible show evIs _ (_ :: _) _ _); first | refine wQ ?_ | refine wF ?_ | refine wG ?_ | refine wT ?_ | refine wM ?_ | refine wS ?_ | refine wP ?_ | refine wJ ?_ | refine wX ?_ | refine wY ?_))
          clear hF
          repeat refine evDone ?_
          try (show AW _ _ _ _ _)
          repeat refine AW.seq ?_
          refine AW.condT (by simp [h1, h2, h3]) (by simp [h1, h2, h3]) ?_
          repeat refine AW.seq ?_
          refine AW.reg ?_
          have hF := True.intro
          repeat (first | refine wD1 ?_ | refine wD2 ?_ | refine wE1 ?_ | refine wE2 ?_ | (refine wE3 ?_; intro _) | (refine wE4 ?_; intro _) | refine wN ?_ | ((with_reducible show evIs _ (_ :: _) _ _); first | refine wQ ?_ | refine wF ?_ | refine wG ?_ | refine wT ?_ | refine wM ?_ | refine wS ?_ | refine wP ?_ | refine wJ ?_ | refine wX ?_ | refine wY ?_))
          clear hF
          repeat refine evDone ?_
          try (show AW _ _ _ _ _)
          refine AW.ret (retI (r := resE (zeroF, 2)) (by simp [enterF, h1, h2, h3, zeroF]) ?_)
          simp [resE, zeroF, Frame.ao, avs, a22_res, resOk, resP, resV, ARes.op, R2s, R2, R1s, R1, closeOk, closeV]
        · repeat refine AW.seq ?_
          refine AW.reg ?_
          have hF := True.intro
          repeat (first | refine wD1 ?_ | refine wD2 ?_ | refine wE1 ?_ | refine wE2 ?_ | (refine wE3 ?_; intro _) | (refine wE4 ?_; intro _) | refine wN ?_ | ((with_reducible show evIs _ (_ :: _) _ _); first | refine wQ ?_ | refine wF ?_ | refine wG ?_ | refine wT ?_ | refine wM ?_ | refine wS ?_ | refine wP ?_ | refine wJ ?_ | refine wX ?_ | refine wY ?_))
          clear hF
          repeat refine evDone ?_
          try (show AW _ _ _ _ _)
          repeat refine AW.seq ?_
          refine AW.block ?_
          repeat refine AW.seq ?_
          refine AW.reg ?_
          have hF := True.intro
          repeat (first | refine wD1 ?_ | refine wD2 ?_ | refine wE1 ?_ | refine wE2 ?_ | (refine wE3 ?_; intro _) | (refine wE4 ?_; intro _) | refine wN ?_ | ((with_reducible show evIs _ (_ :: _) _ _); first | refine wQ ?_ | refine wF ?_ | refine wG ?_ | refine wT ?_ | refine wM ?_ | refine wS ?_ | refine wP ?_ | refine wJ ?_ | refine wX ?_ | refine wY ?_))
          clear hF
          repeat refine evDone ?_
          try (show AW _ _ _ _ _)
          repeat refine AW.seq ?_
          refine AW.condT (by simp []) (by simp []) ?_
          repeat refine AW.seq ?_
          refine AW.reg ?_
          have hF := And.intro (h1) (And.intro (h2) (h3))
          repeat (first | refine wD1 ?_ | refine wD2 ?_ | refine wE1 ?_ | refine wE2 ?_ | (refine wE3 ?_; intro _) | (refine wE4 ?_; intro _) | refine wN ?_ | ((with_reducible show evIs _ (_ :: _) _ _); first | refine wQ ?_ | refine wF ?_ | refine wG ?_ | refine wT ?_ | refine wM ?_ | refine wS ?_ | refine wP ?_ | refine wJ ?_ | refine wX ?_ | refine wY ?_))
          clear hF
          repeat refine evDone ?_
          try (show AW _ _ _ _ _)
          repeat refine AW.seq ?_
          refine AW.condF (by simp [h1, h2, h3]) (by simp [h1, h2, h3]) ?_
          refine AW.skip ?_
          show AW _ _ _ _ _
          repeat refine AW.seq ?_
          refine AW.reg ?_
          have hF := True.intro
          repeat (first | refine wD1 ?_ | refine wD2 ?_ | refine wE1 ?_ | refine wE2 ?_ | (refine wE3 ?_; intro _) | (refine wE4 ?_; intro _) | refine wN ?_ | ((with_reducible show evIs _ (_ :: _) _ _); first | refine wQ ?_ | refine wF ?_ | refine wG ?_ | refine wT ?_ | refine wM ?_ | refine wS ?_ | refine wP ?_ | refine wJ ?_ | refine wX ?_ | refine wY ?_))
          clear hF
          repeat refine evDone ?_
          try (show AW _ _ _ _ _)
          have hF := True.intro
          refine wL (hA := h44) ?_
          clear hF
          rintro _ n' _ ⟨S, M, hSM, hS, hM, hSn, hMn, rfl, rfl⟩
          have hN : (∀ c, c < 100 → (S = c) = False) ∧ (∀ c, c < 100 → (c = S) = False) ∧ (∀ c, c < 100 → (M = c) = False) ∧ (∀ c, c < 100 → (c = M) = False) ∧ (S = M) = False ∧ (M = S) = False := by
            refine ⟨?_, ?_, ?_, ?_, ?_, ?_⟩ <;> first | exact fun c hc => eq_false (by omega) | exact eq_false (by omega)
          have hF := hN
          repeat (first | refine wD1 ?_ | refine wD2 ?_ | refine wE1 ?_ | refine wE2 ?_ | (refine wE3 ?_; intro _) | (refine wE4 ?_; intro _) | refine wN ?_ | ((with_reducible show evIs _ (_ :: _) _ _); first | refine wQ ?_ | refine wF ?_ | refine wG ?_ | refine wT ?_ | refine wM ?_ | refine wS ?_ | refine wP ?_ | refine wJ ?_ | refine wX ?_ | refine wY ?_))
          clear hF
          repeat refine evDone ?_
          try (show AW _ _ _ _ _)
          repeat refine AW.seq ?_
          refine AW.reg ?_
          have hF := And.intro (hby) (And.intro (hby2) (hN))
          repeat (first | refine wD1 ?_ | refine wD2 ?_ | refine wE1 ?_ | refine wE2 ?_ | (refine wE3 ?_; intro _) | (refine wE4 ?_; intro _) | refine wN ?_ | ((with_reducible show evIs _ (_ :: _) _ _); first | refine wQ ?_ | refine wF ?_ | refine wG ?_ | refine wT ?_ | refine wM ?_ | refine wS ?_ | refine wP ?_ | refine wJ ?_ | refine wX ?_ | refine wY ?_))
          clear hF
          repeat refine evDone ?_
          try (show AW _ _ _ _ _)
          repeat refine AW.seq ?_
          refine AW.reg ?_
          have hF := hN
          repeat (first | refine wD1 ?_ | refine wD2 ?_ | refine wE1 ?_ | refine wE2 ?_ | (refine wE3 ?_; intro _) | (refine wE4 ?_; intro _) | refine wN ?_ | ((with_reducible show evIs _ (_ :: _) _ _); first | refine wQ ?_ | refine wF ?_ | refine wG ?_ | refine wT ?_ | refine wM ?_ | refine wS ?_ | refine wP ?_ | refine wJ ?_ | refine wX ?_ | refine wY ?_))
          clear hF
          repeat refine evDone ?_
          try (show AW _ _ _ _ _)
          have ht5 : (avs slots).take slots.length = avs slots := List.take_of_length_le (by simp)
          have htM : (marks.map Mark.av ++ [Mark.av ⟨1, target, slot, stack.length, [], 0, 0, ⟨#[]⟩, [], []⟩]).take (marks.length + 1) = marks.map Mark.av ++ [Mark.av ⟨1, target, slot, stack.length, [], 0, 0, ⟨#[]⟩, [], []⟩] := List.take_of_length_le (by simp)
          simp only [Mark.av, List.map_nil, avs] at htM
          refine AW.ret (retI (r := resE (⟨fn, pc, slots, stack, marks ++ [⟨1, target, slot, stack.length, [], 0, 0, ⟨#[]⟩, [], []⟩]⟩, 0)) (by simp [enterF, h1, h2, h3, zeroF]) ?_)
          simp [resE, Frame.ao, Mark.av, avs, a22_res, ht5, htM, hN, resOk, resP, resV, ARes.op, R2s, R2, R1s, R1, closeOk, closeV]
  · by_cases k2 : kind = 2
    · subst k2
      by_cases h1 : target = 0
      · subst h1
        by_cases h2 : slot = 0
        · subst h2
          repeat refine AW.seq ?_
          refine AW.reg ?_
          have hF := True.intro
          repeat (first | refine wD1 ?_ | refine wD2 ?_ | refine wE1 ?_ | refine wE2 ?_ | (refine wE3 ?_; intro _) | (refine wE4 ?_; intro _) | refine wN ?_ | ((with_reducible show evIs _ (_ :: _) _ _); first | refine wQ ?_ | refine wF ?_ | refine wG ?_ | refine wT ?_ | refine wM ?_ | refine wS ?_ | refine wP ?_ | refine wJ ?_ | refine wX ?_ | refine wY ?_))
          clear hF
          repeat refine evDone ?_
          try (show AW _ _ _ _ _)
          repeat refine AW.seq ?_
          refine AW.block ?_
          repeat refine AW.seq ?_
          refine AW.reg ?_
          have hF := True.intro
          repeat (first | refine wD1 ?_ | refine wD2 ?_ | refine wE1 ?_ | refine wE2 ?_ | (refine wE3 ?_; intro _) | (refine wE4 ?_; intro _) | refine wN ?_ | ((with_reducible show evIs _ (_ :: _) _ _); first | refine wQ ?_ | refine wF ?_ | refine wG ?_ | refine wT ?_ | refine wM ?_ | refine wS ?_ | refine wP ?_ | refine wJ ?_ | refine wX ?_ | refine wY ?_))
          clear hF
          repeat refine evDone ?_
          try (show AW _ _ _ _ _)
          repeat refine AW.seq ?_
          refine AW.condF (by simp []) (by simp []) ?_
          repeat refine AW.seq ?_
          refine AW.reg ?_
          have hF := True.intro
          repeat (first | refine wD1 ?_ | refine wD2 ?_ | refine wE1 ?_ | refine wE2 ?_ | (refine wE3 ?_; intro _) | (refine wE4 ?_; intro _) | refine wN ?_ | ((with_reducible show evIs _ (_ :: _) _ _); first | refine wQ ?_ | refine wF ?_ | refine wG ?_ | refine wT ?_ | refine wM ?_ | refine wS ?_ | refine wP ?_ | refine wJ ?_ | refine wX ?_ | refine wY ?_))
          clear hF
          repeat refine evDone ?_
          try (show AW _ _ _ _ _)
          repeat refine AW.seq ?_
          refine AW.condT (by simp []) (by simp []) ?_
          repeat refine AW.seq ?_
          refine AW.reg ?_
          have hF := True.intro
          repeat (first | refine wD1 ?_ | refine wD2 ?_ | refine wE1 ?_ | refine wE2 ?_ | (refine wE3 ?_; intro _) | (refine wE4 ?_; intro _) | refine wN ?_ | ((with_reducible show evIs _ (_ :: _) _ _); first | refine wQ ?_ | refine wF ?_ | refine wG ?_ | refine wT ?_ | refine wM ?_ | refine wS ?_ | refine wP ?_ | refine wJ ?_ | refine wX ?_ | refine wY ?_))
          clear hF
          repeat refine evDone ?_
          try (show AW _ _ _ _ _)
          repeat refine AW.seq ?_
          refine AW.condF (by simp []) (by simp []) ?_
          refine AW.skip ?_
          show AW _ _ _ _ _
          repeat refine AW.seq ?_
          refine AW.reg ?_
          have hF := True.intro
          repeat (first | refine wD1 ?_ | refine wD2 ?_ | refine wE1 ?_ | refine wE2 ?_ | (refine wE3 ?_; intro _) | (refine wE4 ?_; intro _) | refine wN ?_ | ((with_reducible show evIs _ (_ :: _) _ _); first | refine wQ ?_ | refine wF ?_ | refine wG ?_ | refine wT ?_ | refine wM ?_ | refine wS ?_ | refine wP ?_ | refine wJ ?_ | refine wX ?_ | refine wY ?_))
          clear hF
          repeat refine evDone ?_
          try (show AW _ _ _ _ _)
          have hF := True.intro
          refine wL (hA := h44) ?_
          clear hF
          rintro _ n' _ ⟨S, M, hSM, hS, hM, hSn, hMn, rfl, rfl⟩
          have hN : (∀ c, c < 100 → (S = c) = False) ∧ (∀ c, c < 100 → (c = S) = False) ∧ (∀ c, c < 100 → (M = c) = False) ∧ (∀ c, c < 100 → (c = M) = False) ∧ (S = M) = False ∧ (M = S) = False := by
            refine ⟨?_, ?_, ?_, ?_, ?_, ?_⟩ <;> first | exact fun c hc => eq_false (by omega) | exact eq_false (by omega)
          have hF := hN
          repeat (first | refine wD1 ?_ | refine wD2 ?_ | refine wE1 ?_ | refine wE2 ?_ | (refine wE3 ?_; intro _) | (refine wE4 ?_; intro _) | refine wN ?_ | ((with_reducible show evIs _ (_ :: _) _ _); first | refine wQ ?_ | refine wF ?_ | refine wG ?_ | refine wT ?_ | refine wM ?_ | refine wS ?_ | refine wP ?_ | refine wJ ?_ | refine wX ?_ | refine wY ?_))
          clear hF
          repeat refine evDone ?_
          try (show AW _ _ _ _ _)
          repeat refine AW.seq ?_
          refine AW.reg ?_
          have hF := And.intro (hby) (And.intro (hby2) (hN))
          repeat (first | refine wD1 ?_ | refine wD2 ?_ | refine wE1 ?_ | refine wE2 ?_ | (refine wE3 ?_; intro _) | (refine wE4 ?_; intro _) | refine wN ?_ | ((with_reducible show evIs _ (_ :: _) _ _); first | refine wQ ?_ | refine wF ?_ | refine wG ?_ | refine wT ?_ | refine wM ?_ | refine wS ?_ | refine wP ?_ | refine wJ ?_ | refine wX ?_ | refine wY ?_))
          clear hF
          repeat refine evDone ?_
          try (show AW _ _ _ _ _)
          repeat refine AW.seq ?_
          refine AW.reg ?_
          have hF := hN
          repeat (first | refine wD1 ?_ | refine wD2 ?_ | refine wE1 ?_ | refine wE2 ?_ | (refine wE3 ?_; intro _) | (refine wE4 ?_; intro _) | refine wN ?_ | ((with_reducible show evIs _ (_ :: _) _ _); first | refine wQ ?_ | refine wF ?_ | refine wG ?_ | refine wT ?_ | refine wM ?_ | refine wS ?_ | refine wP ?_ | refine wJ ?_ | refine wX ?_ | refine wY ?_))
          clear hF
          repeat refine evDone ?_
          try (show AW _ _ _ _ _)
          have ht5 : (avs slots).take slots.length = avs slots := List.take_of_length_le (by simp)
          have htM : (marks.map Mark.av ++ [Mark.av ⟨2, 0, 0, stack.length, [], 0, 0, ⟨#[]⟩, [], []⟩]).take (marks.length + 1) = marks.map Mark.av ++ [Mark.av ⟨2, 0, 0, stack.length, [], 0, 0, ⟨#[]⟩, [], []⟩] := List.take_of_length_le (by simp)
          simp only [Mark.av, List.map_nil, avs] at htM
          refine AW.ret (retI (r := resE (⟨fn, pc, slots, stack, marks ++ [⟨2, 0, 0, stack.length, [], 0, 0, ⟨#[]⟩, [], []⟩]⟩, 0)) (by simp [enterF, zeroF]) ?_)
          simp [resE, Frame.ao, Mark.av, avs, a22_res, ht5, htM, hN, resOk, resP, resV, ARes.op, R2s, R2, R1s, R1, closeOk, closeV]
        · repeat refine AW.seq ?_
          refine AW.reg ?_
          have hF := True.intro
          repeat (first | refine wD1 ?_ | refine wD2 ?_ | refine wE1 ?_ | refine wE2 ?_ | (refine wE3 ?_; intro _) | (refine wE4 ?_; intro _) | refine wN ?_ | ((with_reducible show evIs _ (_ :: _) _ _); first | refine wQ ?_ | refine wF ?_ | refine wG ?_ | refine wT ?_ | refine wM ?_ | refine wS ?_ | refine wP ?_ | refine wJ ?_ | refine wX ?_ | refine wY ?_))
          clear hF
          repeat refine evDone ?_
          try (show AW _ _ _ _ _)
          repeat refine AW.seq ?_
          refine AW.block ?_
          repeat refine AW.seq ?_
          refine AW.reg ?_
          have hF := True.intro
          repeat (first | refine wD1 ?_ | refine wD2 ?_ | refine wE1 ?_ | refine wE2 ?_ | (refine wE3 ?_; intro _) | (refine wE4 ?_; intro _) | refine wN ?_ | ((with_reducible show evIs _ (_ :: _) _ _); first | refine wQ ?_ | refine wF ?_ | refine wG ?_ | refine wT ?_ | refine wM ?_ | refine wS ?_ | refine wP ?_ | refine wJ ?_ | refine wX ?_ | refine wY ?_))
          clear hF
          repeat refine evDone ?_
          try (show AW _ _ _ _ _)
          repeat refine AW.seq ?_
          refine AW.condF (by simp []) (by simp []) ?_
          repeat refine AW.seq ?_
          refine AW.reg ?_
          have hF := True.intro
          repeat (first | refine wD1 ?_ | refine wD2 ?_ | refine wE1 ?_ | refine wE2 ?_ | (refine wE3 ?_; intro _) | (refine wE4 ?_; intro _) | refine wN ?_ | ((with_reducible show evIs _ (_ :: _) _ _); first | refine wQ ?_ | refine wF ?_ | refine wG ?_ | refine wT ?_ | refine wM ?_ | refine wS ?_ | refine wP ?_ | refine wJ ?_ | refine wX ?_ | refine wY ?_))
          clear hF
          repeat refine evDone ?_
          try (show AW _ _ _ _ _)
          repeat refine AW.seq ?_
          refine AW.condT (by simp []) (by simp []) ?_
          repeat refine AW.seq ?_
          refine AW.reg ?_
          have hF := h2
          repeat (first | refine wD1 ?_ | refine wD2 ?_ | refine wE1 ?_ | refine wE2 ?_ | (refine wE3 ?_; intro _) | (refine wE4 ?_; intro _) | refine wN ?_ | ((with_reducible show evIs _ (_ :: _) _ _); first | refine wQ ?_ | refine wF ?_ | refine wG ?_ | refine wT ?_ | refine wM ?_ | refine wS ?_ | refine wP ?_ | refine wJ ?_ | refine wX ?_ | refine wY ?_))
          clear hF
          repeat refine evDone ?_
          try (show AW _ _ _ _ _)
          repeat refine AW.seq ?_
          refine AW.condT (by simp [h2]) (by simp [h2]) ?_
          repeat refine AW.seq ?_
          refine AW.reg ?_
          have hF := True.intro
          repeat (first | refine wD1 ?_ | refine wD2 ?_ | refine wE1 ?_ | refine wE2 ?_ | (refine wE3 ?_; intro _) | (refine wE4 ?_; intro _) | refine wN ?_ | ((with_reducible show evIs _ (_ :: _) _ _); first | refine wQ ?_ | refine wF ?_ | refine wG ?_ | refine wT ?_ | refine wM ?_ | refine wS ?_ | refine wP ?_ | refine wJ ?_ | refine wX ?_ | refine wY ?_))
          clear hF
          repeat refine evDone ?_
          try (show AW _ _ _ _ _)
          refine AW.ret (retI (r := resE (zeroF, 2)) (by simp [enterF, h2, zeroF]) ?_)
          simp [resE, zeroF, Frame.ao, avs, a22_res, resOk, resP, resV, ARes.op, R2s, R2, R1s, R1, closeOk, closeV]
      · repeat refine AW.seq ?_
        refine AW.reg ?_
        have hF := True.intro
        repeat (first | refine wD1 ?_ | refine wD2 ?_ | refine wE1 ?_ | refine wE2 ?_ | (refine wE3 ?_; intro _) | (refine wE4 ?_; intro _) | refine wN ?_ | ((with_reducible show evIs _ (_ :: _) _ _); first | refine wQ ?_ | refine wF ?_ | refine wG ?_ | refine wT ?_ | refine wM ?_ | refine wS ?_ | refine wP ?_ | refine wJ ?_ | refine wX ?_ | refine wY ?_))
        clear hF
        repeat refine evDone ?_
        try (show AW _ _ _ _ _)
        repeat refine AW.seq ?_
        refine AW.block ?_
        repeat refine AW.seq ?_
        refine AW.reg ?_
        have hF := True.intro
        repeat (first | refine wD1 ?_ | refine wD2 ?_ | refine wE1 ?_ | refine wE2 ?_ | (refine wE3 ?_; intro _) | (refine wE4 ?_; intro _) | refine wN ?_ | ((with_reducible show evIs _ (_ :: _) _ _); first | refine wQ ?_ | refine wF ?_ | refine wG ?_ | refine wT ?_ | refine wM ?_ | refine wS ?_ | refine wP ?_ | refine wJ ?_ | refine wX ?_ | refine wY ?_))
        clear hF
        repeat refine evDone ?_
        try (show AW _ _ _ _ _)
        repeat refine AW.seq ?_
        refine AW.condF (by simp []) (by simp []) ?_
        repeat refine AW.seq ?_
        refine AW.reg ?_
        have hF := True.intro
        repeat (first | refine wD1 ?_ | refine wD2 ?_ | refine wE1 ?_ | refine wE2 ?_ | (refine wE3 ?_; intro _) | (refine wE4 ?_; intro _) | refine wN ?_ | ((with_reducible show evIs _ (_ :: _) _ _); first | refine wQ ?_ | refine wF ?_ | refine wG ?_ | refine wT ?_ | refine wM ?_ | refine wS ?_ | refine wP ?_ | refine wJ ?_ | refine wX ?_ | refine wY ?_))
        clear hF
        repeat refine evDone ?_
        try (show AW _ _ _ _ _)
        repeat refine AW.seq ?_
        refine AW.condT (by simp []) (by simp []) ?_
        repeat refine AW.seq ?_
        refine AW.reg ?_
        have hF := h1
        repeat (first | refine wD1 ?_ | refine wD2 ?_ | refine wE1 ?_ | refine wE2 ?_ | (refine wE3 ?_; intro _) | (refine wE4 ?_; intro _) | refine wN ?_ | ((with_reducible show evIs _ (_ :: _) _ _); first | refine wQ ?_ | refine wF ?_ | refine wG ?_ | refine wT ?_ | refine wM ?_ | refine wS ?_ | refine wP ?_ | refine wJ ?_ | refine wX ?_ | refine wY ?_))
        clear hF
        repeat refine evDone ?_
        try (show AW _ _ _ _ _)
        repeat refine AW.seq ?_
        refine AW.condT (by simp [h1]) (by simp [h1]) ?_
        repeat refine AW.seq ?_
        refine AW.reg ?_
        have hF := True.intro
        repeat (first | refine wD1 ?_ | refine wD2 ?_ | refine wE1 ?_ | refine wE2 ?_ | (refine wE3 ?_; intro _) | (refine wE4 ?_; intro _) | refine wN ?_ | ((with_reducible show evIs _ (_ :: _) _ _); first | refine wQ ?_ | refine wF ?_ | refine wG ?_ | refine wT ?_ | refine wM ?_ | refine wS ?_ | refine wP ?_ | refine wJ ?_ | refine wX ?_ | refine wY ?_))
        clear hF
        repeat refine evDone ?_
        try (show AW _ _ _ _ _)
        refine AW.ret (retI (r := resE (zeroF, 2)) (by simp [enterF, h1, zeroF]) ?_)
        simp [resE, zeroF, Frame.ao, avs, a22_res, resOk, resP, resV, ARes.op, R2s, R2, R1s, R1, closeOk, closeV]
    · repeat refine AW.seq ?_
      refine AW.reg ?_
      have hF := True.intro
      repeat (first | refine wD1 ?_ | refine wD2 ?_ | refine wE1 ?_ | refine wE2 ?_ | (refine wE3 ?_; intro _) | (refine wE4 ?_; intro _) | refine wN ?_ | ((with_reducible show evIs _ (_ :: _) _ _); first | refine wQ ?_ | refine wF ?_ | refine wG ?_ | refine wT ?_ | refine wM ?_ | refine wS ?_ | refine wP ?_ | refine wJ ?_ | refine wX ?_ | refine wY ?_))
      clear hF
      repeat refine evDone ?_
      try (show AW _ _ _ _ _)
      repeat refine AW.seq ?_
      refine AW.block ?_
      repeat refine AW.seq ?_
      refine AW.reg ?_
      repeat (first
        | refine evD1 rfl rfl rfl ?_
        | refine evD2 rfl rfl rfl ?_
        | (refine evD1g rfl rfl rfl ?_ ?_; (focus (simp [k1]; done)))
        | (refine evD2g rfl rfl rfl ?_ ?_; (focus (simp [k1]; done)))
        | (refine evN ?_ ?_; (focus (first | exact trivial | (simp [k1, wsOf, List.lookup, rechecks, recheck, ok1, val1]; done))))
        | (with_reducible show evIs _ (_ :: _) _ _
           first
            | (refine evQ rfl rfl rfl (by conv => lhs; (try simp [k1])) ?_ ?_; (focus (simp [k1]; done)))
            | (refine evF rfl rfl ?_ ?_ ?_; (focus (simp [k1]; done)); (focus (simp [k1]; done)))
            | (refine evG rfl rfl rfl (by conv => lhs; (try simp [k1])) (by conv => lhs; (try simp [k1])) ?_ ?_ ?_; (focus (simp [k1]; done)); (focus (simp [k1]; done)))
            | (refine evT1 rfl ?_ rfl ?_ ?_; (focus (simp [k1]; done)); (focus (simp [k1]; done)))
            | (refine evM rfl rfl rfl (by conv => lhs; (try simp)) (by conv => lhs; (try simp [k1])) ?_ ?_; (focus (simp [k1]; done)))
            | (refine evS rfl rfl rfl (by conv => lhs; (try simp [k1])) (by conv => lhs; (try simp [k1])) (by conv => lhs; (try simp [k1, storeS, putAt, reCells, usedE])) ?_ ?_ ?_ ?_; (focus (simp [k1]; done)); (focus (simp [k1]; done)); (focus (simp [k1, storeOk]; done)))
            | (refine evAp rfl rfl rfl (by conv => lhs; (try simp)) (by conv => lhs; (try simp [k1])) (by conv => lhs; (try simp [k1])) (by conv => lhs; (try simp [k1, appS])) (by conv => lhs; (try simp [k1])) ?_ ?_ ?_ ?_; (focus (simp [k1]; done)); (focus (simp [k1]; done)); (focus (simp [k1, appOk]; done)))))
      repeat refine evDone ?_
      try (show AW _ _ _ _ _)
      repeat refine AW.seq ?_
      refine AW.condF (by simp [k1]) (by simp [k1]) ?_
      repeat refine AW.seq ?_
      refine AW.reg ?_
      repeat (first
        | refine evD1 rfl rfl rfl ?_
        | refine evD2 rfl rfl rfl ?_
        | (refine evD1g rfl rfl rfl ?_ ?_; (focus (simp [k2]; done)))
        | (refine evD2g rfl rfl rfl ?_ ?_; (focus (simp [k2]; done)))
        | (refine evN ?_ ?_; (focus (first | exact trivial | (simp [k2, wsOf, List.lookup, rechecks, recheck, ok1, val1]; done))))
        | (with_reducible show evIs _ (_ :: _) _ _
           first
            | (refine evQ rfl rfl rfl (by conv => lhs; (try simp [k2])) ?_ ?_; (focus (simp [k2]; done)))
            | (refine evF rfl rfl ?_ ?_ ?_; (focus (simp [k2]; done)); (focus (simp [k2]; done)))
            | (refine evG rfl rfl rfl (by conv => lhs; (try simp [k2])) (by conv => lhs; (try simp [k2])) ?_ ?_ ?_; (focus (simp [k2]; done)); (focus (simp [k2]; done)))
            | (refine evT1 rfl ?_ rfl ?_ ?_; (focus (simp [k2]; done)); (focus (simp [k2]; done)))
            | (refine evM rfl rfl rfl (by conv => lhs; (try simp)) (by conv => lhs; (try simp [k2])) ?_ ?_; (focus (simp [k2]; done)))
            | (refine evS rfl rfl rfl (by conv => lhs; (try simp [k2])) (by conv => lhs; (try simp [k2])) (by conv => lhs; (try simp [k2, storeS, putAt, reCells, usedE])) ?_ ?_ ?_ ?_; (focus (simp [k2]; done)); (focus (simp [k2]; done)); (focus (simp [k2, storeOk]; done)))
            | (refine evAp rfl rfl rfl (by conv => lhs; (try simp)) (by conv => lhs; (try simp [k2])) (by conv => lhs; (try simp [k2])) (by conv => lhs; (try simp [k2, appS])) (by conv => lhs; (try simp [k2])) ?_ ?_ ?_ ?_; (focus (simp [k2]; done)); (focus (simp [k2]; done)); (focus (simp [k2, appOk]; done)))))
      repeat refine evDone ?_
      try (show AW _ _ _ _ _)
      repeat refine AW.seq ?_
      refine AW.condF (by simp [k2]) (by simp [k2]) ?_
      repeat refine AW.seq ?_
      refine AW.reg ?_
      have hF := True.intro
      repeat (first | refine wD1 ?_ | refine wD2 ?_ | refine wE1 ?_ | refine wE2 ?_ | (refine wE3 ?_; intro _) | (refine wE4 ?_; intro _) | refine wN ?_ | ((with_reducible show evIs _ (_ :: _) _ _); first | refine wQ ?_ | refine wF ?_ | refine wG ?_ | refine wT ?_ | refine wM ?_ | refine wS ?_ | refine wP ?_ | refine wJ ?_ | refine wX ?_ | refine wY ?_))
      clear hF
      repeat refine evDone ?_
      try (show AW _ _ _ _ _)
      refine AW.ret (retI (r := resE (zeroF, 11)) (by simp [enterF, k1, k2, zeroF]) ?_)
      simp [resE, zeroF, Frame.ao, avs, a22_res, resOk, resP, resV, ARes.op, R2s, R2, R1s, R1, closeOk, closeV]
theorem f23 (f : Frame) (kind target slot : Int) (hok : f.ok2) : ACall Try.prog 23 [f.av, .int .i64 kind, .int .i64 target, .int .i64 slot] (· = resE (enterF f kind target slot)) := by
  have h44 := f45 100 f hok.1
  have hml : f.marks.length ≤ 12 := hok.2
  obtain ⟨fn, pc, slots, stack, marks⟩ := f
  simp only [Frame.av] at h44 ⊢
  dsimp only at hml
  have hby : (marks.length + 1) * 136 ≤ 140737488355328 := by omega
  have hby2 : marks.length + 1 ≤ 9223372036854775807 := by omega
  refine a23_of (by simp) ?_
  repeat refine AW.seq ?_
  refine AW.reg ?_
  have hF := True.intro
  repeat (first | refine wD1 ?_ | refine wD2 ?_ | refine wE1 ?_ | refine wE2 ?_ | (refine wE3 ?_; intro _) | (refine wE4 ?_; intro _) | refine wN ?_ | ((with_reducible show evIs _ (_ :: _) _ _); first | refine wQ ?_ | refine wF ?_ | refine wG ?_ | refine wT ?_ | refine wM ?_ | refine wS ?_ | refine wP ?_ | refine wJ ?_ | refine wX ?_ | refine wY ?_))
  clear hF
  repeat refine evDone ?_
  try (show AW _ _ _ _ _)
  by_cases k1 : kind = 1
  · subst k1
    by_cases h1 : target < 0
    · repeat refine AW.seq ?_
      refine AW.reg ?_
      have hF := True.intro
      repeat (first | refine wD1 ?_ | refine wD2 ?_ | refine wE1 ?_ | refine wE2 ?_ | (refine wE3 ?_; intro _) | (refine wE4 ?_; intro _) | refine wN ?_ | ((with_reducible show evIs _ (_ :: _) _ _); first | refine wQ ?_ | refine wF ?_ | refine wG ?_ | refine wT ?_ | refine wM ?_ | refine wS ?_ | refine wP ?_ | refine wJ ?_ | refine wX ?_ | refine wY ?_))
      clear hF
      repeat refine evDone ?_
      try (show AW _ _ _ _ _)
      repeat refine AW.seq ?_
      refine AW.condF (by simp []) (by simp []) ?_
      refine AW.skip ?_
      show AW _ _ _ _ _
      repeat refine AW.seq ?_
      refine AW.reg ?_
      have hF := h1
      repeat (first | refine wD1 ?_ | refine wD2 ?_ | refine wE1 ?_ | refine wE2 ?_ | (refine wE3 ?_; intro _) | (refine wE4 ?_; intro _) | refine wN ?_ | ((with_reducible show evIs _ (_ :: _) _ _); first | refine wQ ?_ | refine wF ?_ | refine wG ?_ | refine wT ?_ | refine wM ?_ | refine wS ?_ | refine wP ?_ | refine wJ ?_ | refine wX ?_ | refine wY ?_))
      clear hF
      repeat refine evDone ?_
      try (show AW _ _ _ _ _)
      repeat refine AW.seq ?_
      refine AW.condT (by simp [h1]) (by simp [h1]) ?_
      repeat refine AW.seq ?_
      refine AW.reg ?_
      have hF := True.intro
      repeat (first | refine wD1 ?_ | refine wD2 ?_ | refine wE1 ?_ | refine wE2 ?_ | (refine wE3 ?_; intro _) | (refine wE4 ?_; intro _) | refine wN ?_ | ((with_reducible show evIs _ (_ :: _) _ _); first | refine wQ ?_ | refine wF ?_ | refine wG ?_ | refine wT ?_ | refine wM ?_ | refine wS ?_ | refine wP ?_ | refine wJ ?_ | refine wX ?_ | refine wY ?_))
      clear hF
      repeat refine evDone ?_
      try (show AW _ _ _ _ _)
      refine AW.ret (retI (r := resE (zeroF, 2)) (by simp [enterF, h1, zeroF]) ?_)
      simp [resE, zeroF, Frame.ao, avs, a23_res, resOk, resP, resV, ARes.op, R2s, R2, R1s, R1, closeOk, closeV]
    · by_cases h2 : slot < 0
      · repeat refine AW.seq ?_
        refine AW.reg ?_
        have hF := True.intro
        repeat (first | refine wD1 ?_ | refine wD2 ?_ | refine wE1 ?_ | refine wE2 ?_ | (refine wE3 ?_; intro _) | (refine wE4 ?_; intro _) | refine wN ?_ | ((with_reducible show evIs _ (_ :: _) _ _); first | refine wQ ?_ | refine wF ?_ | refine wG ?_ | refine wT ?_ | refine wM ?_ | refine wS ?_ | refine wP ?_ | refine wJ ?_ | refine wX ?_ | refine wY ?_))
        clear hF
        repeat refine evDone ?_
        try (show AW _ _ _ _ _)
        repeat refine AW.seq ?_
        refine AW.condF (by simp []) (by simp []) ?_
        refine AW.skip ?_
        show AW _ _ _ _ _
        repeat refine AW.seq ?_
        refine AW.reg ?_
        have hF := And.intro (h1) (h2)
        repeat (first | refine wD1 ?_ | refine wD2 ?_ | refine wE1 ?_ | refine wE2 ?_ | (refine wE3 ?_; intro _) | (refine wE4 ?_; intro _) | refine wN ?_ | ((with_reducible show evIs _ (_ :: _) _ _); first | refine wQ ?_ | refine wF ?_ | refine wG ?_ | refine wT ?_ | refine wM ?_ | refine wS ?_ | refine wP ?_ | refine wJ ?_ | refine wX ?_ | refine wY ?_))
        clear hF
        repeat refine evDone ?_
        try (show AW _ _ _ _ _)
        repeat refine AW.seq ?_
        refine AW.condT (by simp [h1, h2]) (by simp [h1, h2]) ?_
        repeat refine AW.seq ?_
        refine AW.reg ?_
        have hF := True.intro
        repeat (first | refine wD1 ?_ | refine wD2 ?_ | refine wE1 ?_ | refine wE2 ?_ | (refine wE3 ?_; intro _) | (refine wE4 ?_; intro _) | refine wN ?_ | ((with_reducible show evIs _ (_ :: _) _ _); first | refine wQ ?_ | refine wF ?_ | refine wG ?_ | refine wT ?_ | refine wM ?_ | refine wS ?_ | refine wP ?_ | refine wJ ?_ | refine wX ?_ | refine wY ?_))
        clear hF
        repeat refine evDone ?_
        try (show AW _ _ _ _ _)
        refine AW.ret (retI (r := resE (zeroF, 2)) (by simp [enterF, h1, h2, zeroF]) ?_)
        simp [resE, zeroF, Frame.ao, avs, a23_res, resOk, resP, resV, ARes.op, R2s, R2, R1s, R1, closeOk, closeV]
      · by_cases h3 : (slots.length : Int) ≤ slot
        · repeat refine AW.seq ?_
          refine AW.reg ?_
          have hF := True.intro
          repeat (first | refine wD1 ?_ | refine wD2 ?_ | refine wE1 ?_ | refine wE2 ?_ | (refine wE3 ?_; intro _) | (refine wE4 ?_; intro _) | refine wN ?_ | ((with_reducible show evIs _ (_ :: _) _ _); first | refine wQ ?_ | refine wF ?_ | refine wG ?_ | refine wT ?_ | refine wM ?_ | refine wS ?_ | refine wP ?_ | refine wJ ?_ | refine wX ?_ | refine wY ?_))
          clear hF
          repeat refine evDone ?_
          try (show AW _ _ _ _ _)
          repeat refine AW.seq ?_
          refine AW.condF (by simp []) (by simp []) ?_
          refine AW.skip ?_
          show AW _ _ _ _ _
          repeat refine AW.seq ?_
          refine AW.reg ?_
          have hF := And.intro (h1) (And.intro (h2) (h3))
          repeat (first | refine wD1 ?_ | refine wD2 ?_ | refine wE1 ?_ | refine wE2 ?_ | (refine wE3 ?_; intro _) | (refine wE4 ?_; intro _) | refine wN ?_ | ((with_reducible show evIs _ (_ :: _) _ _); first | refine wQ ?_ | refine wF ?_ | refine wG ?_ | refine wT ?_ | refine wM ?_ | refine wS ?_ | refine wP ?_ | refine wJ ?_ | refine wX ?_ | refine wY ?_))
          clear hF
          repeat refine evDone ?_
          try (show AW _ _ _ _ _)
          repeat refine AW.seq ?_
          refine AW.condT (by simp [h1, h2, h3]) (by simp [h1, h2, h3]) ?_
          repeat refine AW.seq ?_
          refine AW.reg ?_
          have hF := True.intro
          repeat (first | refine wD1 ?_ | refine wD2 ?_ | refine wE1 ?_ | refine wE2 ?_ | (refine wE3 ?_; intro _) | (refine wE4 ?_; intro _) | refine wN ?_ | ((with_reducible show evIs _ (_ :: _) _ _); first | refine wQ ?_ | refine wF ?_ | refine wG ?_ | refine wT ?_ | refine wM ?_ | refine wS ?_ | refine wP ?_ | refine wJ ?_ | refine wX ?_ | refine wY ?_))
          clear hF
          repeat refine evDone ?_
          try (show AW _ _ _ _ _)
          refine AW.ret (retI (r := resE (zeroF, 2)) (by simp [enterF, h1, h2, h3, zeroF]) ?_)
          simp [resE, zeroF, Frame.ao, avs, a23_res, resOk, resP, resV, ARes.op, R2s, R2, R1s, R1, closeOk, closeV]
        · repeat refine AW.seq ?_
          refine AW.reg ?_
          have hF := True.intro
          repeat (first | refine wD1 ?_ | refine wD2 ?_ | refine wE1 ?_ | refine wE2 ?_ | (refine wE3 ?_; intro _) | (refine wE4 ?_; intro _) | refine wN ?_ | ((with_reducible show evIs _ (_ :: _) _ _); first | refine wQ ?_ | refine wF ?_ | refine wG ?_ | refine wT ?_ | refine wM ?_ | refine wS ?_ | refine wP ?_ | refine wJ ?_ | refine wX ?_ | refine wY ?_))
          clear hF
          repeat refine evDone ?_
          try (show AW _ _ _ _ _)
          repeat refine AW.seq ?_
          refine AW.condF (by simp []) (by simp []) ?_
          refine AW.skip ?_
          show AW _ _ _ _ _
          repeat refine AW.seq ?_
          refine AW.reg ?_
          have hF := And.intro (h1) (And.intro (h2) (h3))
          repeat (first | refine wD1 ?_ | refine wD2 ?_ | refine wE1 ?_ | refine wE2 ?_ | (refine wE3 ?_; intro _) | (refine wE4 ?_; intro _) | refine wN ?_ | ((with_reducible show evIs _ (_ :: _) _ _); first | refine wQ ?_ | refine wF ?_ | refine wG ?_ | refine wT ?_ | refine wM ?_ | refine wS ?_ | refine wP ?_ | refine wJ ?_ | refine wX ?_ | refine wY ?_))
          clear hF
          repeat refine evDone ?_
          try (show AW _ _ _ _ _)
          repeat refine AW.seq ?_
          refine AW.condF (by simp [h1, h2, h3]) (by simp [h1, h2, h3]) ?_
          refine AW.skip ?_
          show AW _ _ _ _ _
          repeat refine AW.seq ?_
          refine AW.reg ?_
          have hF := True.intro
          repeat (first | refine wD1 ?_ | refine wD2 ?_ | refine wE1 ?_ | refine wE2 ?_ | (refine wE3 ?_; intro _) | (refine wE4 ?_; intro _) | refine wN ?_ | ((with_reducible show evIs _ (_ :: _) _ _); first | refine wQ ?_ | refine wF ?_ | refine wG ?_ | refine wT ?_ | refine wM ?_ | refine wS ?_ | refine wP ?_ | refine wJ ?_ | refine wX ?_ | refine wY ?_))
          clear hF
          repeat refine evDone ?_
          try (show AW _ _ _ _ _)
          have hF := True.intro
          refine wL (hA := h44) ?_
          clear hF
          rintro _ n' _ ⟨S, M, hSM, hS, hM, hSn, hMn, rfl, rfl⟩
          have hN : (∀ c, c < 100 → (S = c) = False) ∧ (∀ c, c < 100 → (c = S) = False) ∧ (∀ c, c < 100 → (M = c) = False) ∧ (∀ c, c < 100 → (c = M) = False) ∧ (S = M) = False ∧ (M = S) = False := by
            refine ⟨?_, ?_, ?_, ?_, ?_, ?_⟩ <;> first | exact fun c hc => eq_false (by omega) | exact eq_false (by omega)
          have hF := hN
          repeat (first | refine wD1 ?_ | refine wD2 ?_ | refine wE1 ?_ | refine wE2 ?_ | (refine wE3 ?_; intro _) | (refine wE4 ?_; intro _) | refine wN ?_ | ((with_reducible show evIs _ (_ :: _) _ _); first | refine wQ ?_ | refine wF ?_ | refine wG ?_ | refine wT ?_ | refine wM ?_ | refine wS ?_ | refine wP ?_ | refine wJ ?_ | refine wX ?_ | refine wY ?_))
          clear hF
          repeat refine evDone ?_
          try (show AW _ _ _ _ _)
          repeat refine AW.seq ?_
          refine AW.reg ?_
          have hF := And.intro (hby) (And.intro (hby2) (hN))
          repeat (first | refine wD1 ?_ | refine wD2 ?_ | refine wE1 ?_ | refine wE2 ?_ | (refine wE3 ?_; intro _) | (refine wE4 ?_; intro _) | refine wN ?_ | ((with_reducible show evIs _ (_ :: _) _ _); first | refine wQ ?_ | refine wF ?_ | refine wG ?_ | refine wT ?_ | refine wM ?_ | refine wS ?_ | refine wP ?_ | refine wJ ?_ | refine wX ?_ | refine wY ?_))
          clear hF
          repeat refine evDone ?_
          try (show AW _ _ _ _ _)
          repeat refine AW.seq ?_
          refine AW.reg ?_
          have hF := hN
          repeat (first | refine wD1 ?_ | refine wD2 ?_ | refine wE1 ?_ | refine wE2 ?_ | (refine wE3 ?_; intro _) | (refine wE4 ?_; intro _) | refine wN ?_ | ((with_reducible show evIs _ (_ :: _) _ _); first | refine wQ ?_ | refine wF ?_ | refine wG ?_ | refine wT ?_ | refine wM ?_ | refine wS ?_ | refine wP ?_ | refine wJ ?_ | refine wX ?_ | refine wY ?_))
          clear hF
          repeat refine evDone ?_
          try (show AW _ _ _ _ _)
          have ht5 : (avs slots).take slots.length = avs slots := List.take_of_length_le (by simp)
          have htM : (marks.map Mark.av ++ [Mark.av ⟨1, target, slot, stack.length, [], 0, 0, ⟨#[]⟩, [], []⟩]).take (marks.length + 1) = marks.map Mark.av ++ [Mark.av ⟨1, target, slot, stack.length, [], 0, 0, ⟨#[]⟩, [], []⟩] := List.take_of_length_le (by simp)
          simp only [Mark.av, List.map_nil, avs] at htM
          refine AW.ret (retI (r := resE (⟨fn, pc, slots, stack, marks ++ [⟨1, target, slot, stack.length, [], 0, 0, ⟨#[]⟩, [], []⟩]⟩, 0)) (by simp [enterF, h1, h2, h3, zeroF]) ?_)
          simp [resE, Frame.ao, Mark.av, avs, a23_res, ht5, htM, hN, resOk, resP, resV, ARes.op, R2s, R2, R1s, R1, closeOk, closeV]
  · by_cases k2 : kind = 2
    · subst k2
      by_cases h1 : target = 0
      · subst h1
        by_cases h2 : slot = 0
        · subst h2
          repeat refine AW.seq ?_
          refine AW.reg ?_
          have hF := True.intro
          repeat (first | refine wD1 ?_ | refine wD2 ?_ | refine wE1 ?_ | refine wE2 ?_ | (refine wE3 ?_; intro _) | (refine wE4 ?_; intro _) | refine wN ?_ | ((with_reducible show evIs _ (_ :: _) _ _); first | refine wQ ?_ | refine wF ?_ | refine wG ?_ | refine wT ?_ | refine wM ?_ | refine wS ?_ | refine wP ?_ | refine wJ ?_ | refine wX ?_ | refine wY ?_))
          clear hF
          repeat refine evDone ?_
          try (show AW _ _ _ _ _)
          repeat refine AW.seq ?_
          refine AW.condF (by simp []) (by simp []) ?_
          refine AW.skip ?_
          show AW _ _ _ _ _
          repeat refine AW.seq ?_
          refine AW.reg ?_
          have hF := True.intro
          repeat (first | refine wD1 ?_ | refine wD2 ?_ | refine wE1 ?_ | refine wE2 ?_ | (refine wE3 ?_; intro _) | (refine wE4 ?_; intro _) | refine wN ?_ | ((with_reducible show evIs _ (_ :: _) _ _); first | refine wQ ?_ | refine wF ?_ | refine wG ?_ | refine wT ?_ | refine wM ?_ | refine wS ?_ | refine wP ?_ | refine wJ ?_ | refine wX ?_ | refine wY ?_))
          clear hF
          repeat refine evDone ?_
          try (show AW _ _ _ _ _)
          repeat refine AW.seq ?_
          refine AW.condF (by simp []) (by simp []) ?_
          refine AW.skip ?_
          show AW _ _ _ _ _
          repeat refine AW.seq ?_
          refine AW.reg ?_
          have hF := True.intro
          repeat (first | refine wD1 ?_ | refine wD2 ?_ | refine wE1 ?_ | refine wE2 ?_ | (refine wE3 ?_; intro _) | (refine wE4 ?_; intro _) | refine wN ?_ | ((with_reducible show evIs _ (_ :: _) _ _); first | refine wQ ?_ | refine wF ?_ | refine wG ?_ | refine wT ?_ | refine wM ?_ | refine wS ?_ | refine wP ?_ | refine wJ ?_ | refine wX ?_ | refine wY ?_))
          clear hF
          repeat refine evDone ?_
          try (show AW _ _ _ _ _)
          have hF := True.intro
          refine wL (hA := h44) ?_
          clear hF
          rintro _ n' _ ⟨S, M, hSM, hS, hM, hSn, hMn, rfl, rfl⟩
          have hN : (∀ c, c < 100 → (S = c) = False) ∧ (∀ c, c < 100 → (c = S) = False) ∧ (∀ c, c < 100 → (M = c) = False) ∧ (∀ c, c < 100 → (c = M) = False) ∧ (S = M) = False ∧ (M = S) = False := by
            refine ⟨?_, ?_, ?_, ?_, ?_, ?_⟩ <;> first | exact fun c hc => eq_false (by omega) | exact eq_false (by omega)
          have hF := hN
          repeat (first | refine wD1 ?_ | refine wD2 ?_ | refine wE1 ?_ | refine wE2 ?_ | (refine wE3 ?_; intro _) | (refine wE4 ?_; intro _) | refine wN ?_ | ((with_reducible show evIs _ (_ :: _) _ _); first | refine wQ ?_ | refine wF ?_ | refine wG ?_ | refine wT ?_ | refine wM ?_ | refine wS ?_ | refine wP ?_ | refine wJ ?_ | refine wX ?_ | refine wY ?_))
          clear hF
          repeat refine evDone ?_
          try (show AW _ _ _ _ _)
          repeat refine AW.seq ?_
          refine AW.reg ?_
          have hF := And.intro (hby) (And.intro (hby2) (hN))
          repeat (first | refine wD1 ?_ | refine wD2 ?_ | refine wE1 ?_ | refine wE2 ?_ | (refine wE3 ?_; intro _) | (refine wE4 ?_; intro _) | refine wN ?_ | ((with_reducible show evIs _ (_ :: _) _ _); first | refine wQ ?_ | refine wF ?_ | refine wG ?_ | refine wT ?_ | refine wM ?_ | refine wS ?_ | refine wP ?_ | refine wJ ?_ | refine wX ?_ | refine wY ?_))
          clear hF
          repeat refine evDone ?_
          try (show AW _ _ _ _ _)
          repeat refine AW.seq ?_
          refine AW.reg ?_
          have hF := hN
          repeat (first | refine wD1 ?_ | refine wD2 ?_ | refine wE1 ?_ | refine wE2 ?_ | (refine wE3 ?_; intro _) | (refine wE4 ?_; intro _) | refine wN ?_ | ((with_reducible show evIs _ (_ :: _) _ _); first | refine wQ ?_ | refine wF ?_ | refine wG ?_ | refine wT ?_ | refine wM ?_ | refine wS ?_ | refine wP ?_ | refine wJ ?_ | refine wX ?_ | refine wY ?_))
          clear hF
          repeat refine evDone ?_
          try (show AW _ _ _ _ _)
          have ht5 : (avs slots).take slots.length = avs slots := List.take_of_length_le (by simp)
          have htM : (marks.map Mark.av ++ [Mark.av ⟨2, 0, 0, stack.length, [], 0, 0, ⟨#[]⟩, [], []⟩]).take (marks.length + 1) = marks.map Mark.av ++ [Mark.av ⟨2, 0, 0, stack.length, [], 0, 0, ⟨#[]⟩, [], []⟩] := List.take_of_length_le (by simp)
          simp only [Mark.av, List.map_nil, avs] at htM
          refine AW.ret (retI (r := resE (⟨fn, pc, slots, stack, marks ++ [⟨2, 0, 0, stack.length, [], 0, 0, ⟨#[]⟩, [], []⟩]⟩, 0)) (by simp [enterF, zeroF]) ?_)
          simp [resE, Frame.ao, Mark.av, avs, a23_res, ht5, htM, hN, resOk, resP, resV, ARes.op, R2s, R2, R1s, R1, closeOk, closeV]
        · repeat refine AW.seq ?_
          refine AW.reg ?_
          have hF := True.intro
          repeat (first | refine wD1 ?_ | refine wD2 ?_ | refine wE1 ?_ | refine wE2 ?_ | (refine wE3 ?_; intro _) | (refine wE4 ?_; intro _) | refine wN ?_ | ((with_reducible show evIs _ (_ :: _) _ _); first | refine wQ ?_ | refine wF ?_ | refine wG ?_ | refine wT ?_ | refine wM ?_ | refine wS ?_ | refine wP ?_ | refine wJ ?_ | refine wX ?_ | refine wY ?_))
          clear hF
          repeat refine evDone ?_
          try (show AW _ _ _ _ _)
          repeat refine AW.seq ?_
          refine AW.condF (by simp []) (by simp []) ?_
          refine AW.skip ?_
          show AW _ _ _ _ _
          repeat refine AW.seq ?_
          refine AW.reg ?_
          have hF := h2
          repeat (first | refine wD1 ?_ | refine wD2 ?_ | refine wE1 ?_ | refine wE2 ?_ | (refine wE3 ?_; intro _) | (refine wE4 ?_; intro _) | refine wN ?_ | ((with_reducible show evIs _ (_ :: _) _ _); first | refine wQ ?_ | refine wF ?_ | refine wG ?_ | refine wT ?_ | refine wM ?_ | refine wS ?_ | refine wP ?_ | refine wJ ?_ | refine wX ?_ | refine wY ?_))
          clear hF
          repeat refine evDone ?_
          try (show AW _ _ _ _ _)
          repeat refine AW.seq ?_
          refine AW.condT (by simp [h2]) (by simp [h2]) ?_
          repeat refine AW.seq ?_
          refine AW.reg ?_
          have hF := True.intro
          repeat (first | refine wD1 ?_ | refine wD2 ?_ | refine wE1 ?_ | refine wE2 ?_ | (refine wE3 ?_; intro _) | (refine wE4 ?_; intro _) | refine wN ?_ | ((with_reducible show evIs _ (_ :: _) _ _); first | refine wQ ?_ | refine wF ?_ | refine wG ?_ | refine wT ?_ | refine wM ?_ | refine wS ?_ | refine wP ?_ | refine wJ ?_ | refine wX ?_ | refine wY ?_))
          clear hF
          repeat refine evDone ?_
          try (show AW _ _ _ _ _)
          refine AW.ret (retI (r := resE (zeroF, 2)) (by simp [enterF, h2, zeroF]) ?_)
          simp [resE, zeroF, Frame.ao, avs, a23_res, resOk, resP, resV, ARes.op, R2s, R2, R1s, R1, closeOk, closeV]
      · repeat refine AW.seq ?_
        refine AW.reg ?_
        have hF := True.intro
        repeat (first | refine wD1 ?_ | refine wD2 ?_ | refine wE1 ?_ | refine wE2 ?_ | (refine wE3 ?_; intro _) | (refine wE4 ?_; intro _) | refine wN ?_ | ((with_reducible show evIs _ (_ :: _) _ _); first | refine wQ ?_ | refine wF ?_ | refine wG ?_ | refine wT ?_ | refine wM ?_ | refine wS ?_ | refine wP ?_ | refine wJ ?_ | refine wX ?_ | refine wY ?_))
        clear hF
        repeat refine evDone ?_
        try (show AW _ _ _ _ _)
        repeat refine AW.seq ?_
        refine AW.condF (by simp []) (by simp []) ?_
        refine AW.skip ?_
        show AW _ _ _ _ _
        repeat refine AW.seq ?_
        refine AW.reg ?_
        have hF := h1
        repeat (first | refine wD1 ?_ | refine wD2 ?_ | refine wE1 ?_ | refine wE2 ?_ | (refine wE3 ?_; intro _) | (refine wE4 ?_; intro _) | refine wN ?_ | ((with_reducible show evIs _ (_ :: _) _ _); first | refine wQ ?_ | refine wF ?_ | refine wG ?_ | refine wT ?_ | refine wM ?_ | refine wS ?_ | refine wP ?_ | refine wJ ?_ | refine wX ?_ | refine wY ?_))
        clear hF
        repeat refine evDone ?_
        try (show AW _ _ _ _ _)
        repeat refine AW.seq ?_
        refine AW.condT (by simp [h1]) (by simp [h1]) ?_
        repeat refine AW.seq ?_
        refine AW.reg ?_
        have hF := True.intro
        repeat (first | refine wD1 ?_ | refine wD2 ?_ | refine wE1 ?_ | refine wE2 ?_ | (refine wE3 ?_; intro _) | (refine wE4 ?_; intro _) | refine wN ?_ | ((with_reducible show evIs _ (_ :: _) _ _); first | refine wQ ?_ | refine wF ?_ | refine wG ?_ | refine wT ?_ | refine wM ?_ | refine wS ?_ | refine wP ?_ | refine wJ ?_ | refine wX ?_ | refine wY ?_))
        clear hF
        repeat refine evDone ?_
        try (show AW _ _ _ _ _)
        refine AW.ret (retI (r := resE (zeroF, 2)) (by simp [enterF, h1, zeroF]) ?_)
        simp [resE, zeroF, Frame.ao, avs, a23_res, resOk, resP, resV, ARes.op, R2s, R2, R1s, R1, closeOk, closeV]
    · repeat refine AW.seq ?_
      refine AW.reg ?_
      repeat (first
        | refine evD1 rfl rfl rfl ?_
        | refine evD2 rfl rfl rfl ?_
        | (refine evD1g rfl rfl rfl ?_ ?_; (focus (simp [k1, k2]; done)))
        | (refine evD2g rfl rfl rfl ?_ ?_; (focus (simp [k1, k2]; done)))
        | (refine evN ?_ ?_; (focus (first | exact trivial | (simp [k1, k2, wsOf, List.lookup, rechecks, recheck, ok1, val1]; done))))
        | (with_reducible show evIs _ (_ :: _) _ _
           first
            | (refine evQ rfl rfl rfl (by conv => lhs; (try simp [k1, k2])) ?_ ?_; (focus (simp [k1, k2]; done)))
            | (refine evF rfl rfl ?_ ?_ ?_; (focus (simp [k1, k2]; done)); (focus (simp [k1, k2]; done)))
            | (refine evG rfl rfl rfl (by conv => lhs; (try simp [k1, k2])) (by conv => lhs; (try simp [k1, k2])) ?_ ?_ ?_; (focus (simp [k1, k2]; done)); (focus (simp [k1, k2]; done)))
            | (refine evT1 rfl ?_ rfl ?_ ?_; (focus (simp [k1, k2]; done)); (focus (simp [k1, k2]; done)))
            | (refine evM rfl rfl rfl (by conv => lhs; (try simp)) (by conv => lhs; (try simp [k1, k2])) ?_ ?_; (focus (simp [k1, k2]; done)))
            | (refine evS rfl rfl rfl (by conv => lhs; (try simp [k1, k2])) (by conv => lhs; (try simp [k1, k2])) (by conv => lhs; (try simp [k1, k2, storeS, putAt, reCells, usedE])) ?_ ?_ ?_ ?_; (focus (simp [k1, k2]; done)); (focus (simp [k1, k2]; done)); (focus (simp [k1, k2, storeOk]; done)))
            | (refine evAp rfl rfl rfl (by conv => lhs; (try simp)) (by conv => lhs; (try simp [k1, k2])) (by conv => lhs; (try simp [k1, k2])) (by conv => lhs; (try simp [k1, k2, appS])) (by conv => lhs; (try simp [k1, k2])) ?_ ?_ ?_ ?_; (focus (simp [k1, k2]; done)); (focus (simp [k1, k2]; done)); (focus (simp [k1, k2, appOk]; done)))))
      repeat refine evDone ?_
      try (show AW _ _ _ _ _)
      repeat refine AW.seq ?_
      refine AW.condT (by simp [k1, k2]) (by simp [k1, k2]) ?_
      repeat refine AW.seq ?_
      refine AW.reg ?_
      have hF := True.intro
      repeat (first | refine wD1 ?_ | refine wD2 ?_ | refine wE1 ?_ | refine wE2 ?_ | (refine wE3 ?_; intro _) | (refine wE4 ?_; intro _) | refine wN ?_ | ((with_reducible show evIs _ (_ :: _) _ _); first | refine wQ ?_ | refine wF ?_ | refine wG ?_ | refine wT ?_ | refine wM ?_ | refine wS ?_ | refine wP ?_ | refine wJ ?_ | refine wX ?_ | refine wY ?_))
      clear hF
      repeat refine evDone ?_
      try (show AW _ _ _ _ _)
      refine AW.ret (retI (r := resE (zeroF, 11)) (by simp [enterF, k1, k2, zeroF]) ?_)
      simp [resE, zeroF, Frame.ao, avs, a23_res, resOk, resP, resV, ARes.op, R2s, R2, R1s, R1, closeOk, closeV]
theorem f24 (f : Frame) (hok : f.ok2) : ACall Try.prog 24 [f.av] (· = resE (leaveF f)) := by
  have h44 := f44 100 f hok.1
  have hml : f.marks.length ≤ 12 := hok.2
  obtain ⟨fn, pc, slots, stack, marks⟩ := f
  simp only [Frame.av] at h44 ⊢
  dsimp only at hml
  refine a24_of (by simp) ?_
  repeat refine AW.seq ?_
  refine AW.reg ?_
  have hF := True.intro
  repeat (first | refine wD1 ?_ | refine wD2 ?_ | refine wE1 ?_ | refine wE2 ?_ | (refine wE3 ?_; intro _) | (refine wE4 ?_; intro _) | refine wN ?_ | ((with_reducible show evIs _ (_ :: _) _ _); first | refine wQ ?_ | refine wF ?_ | refine wG ?_ | refine wT ?_ | refine wM ?_ | refine wS ?_ | refine wP ?_ | refine wJ ?_ | refine wX ?_ | refine wY ?_))
  clear hF
  repeat refine evDone ?_
  try (show AW _ _ _ _ _)
  repeat refine AW.seq ?_
  refine AW.reg ?_
  have hF := True.intro
  repeat (first | refine wD1 ?_ | refine wD2 ?_ | refine wE1 ?_ | refine wE2 ?_ | (refine wE3 ?_; intro _) | (refine wE4 ?_; intro _) | refine wN ?_ | ((with_reducible show evIs _ (_ :: _) _ _); first | refine wQ ?_ | refine wF ?_ | refine wG ?_ | refine wT ?_ | refine wM ?_ | refine wS ?_ | refine wP ?_ | refine wJ ?_ | refine wX ?_ | refine wY ?_))
  clear hF
  repeat refine evDone ?_
  try (show AW _ _ _ _ _)
  rcases snoc_cases marks with rfl | ⟨ms, m, rfl⟩
  · simp only [List.map_nil, List.length_nil]
    repeat refine AW.seq ?_
    refine AW.reg ?_
    have hF := True.intro
    repeat (first | refine wD1 ?_ | refine wD2 ?_ | refine wE1 ?_ | refine wE2 ?_ | (refine wE3 ?_; intro _) | (refine wE4 ?_; intro _) | refine wN ?_ | ((with_reducible show evIs _ (_ :: _) _ _); first | refine wQ ?_ | refine wF ?_ | refine wG ?_ | refine wT ?_ | refine wM ?_ | refine wS ?_ | refine wP ?_ | refine wJ ?_ | refine wX ?_ | refine wY ?_))
    clear hF
    repeat refine evDone ?_
    try (show AW _ _ _ _ _)
    repeat refine AW.seq ?_
    refine AW.condT (by simp []) (by simp []) ?_
    repeat refine AW.seq ?_
    refine AW.reg ?_
    have hF := True.intro
    repeat (first | refine wD1 ?_ | refine wD2 ?_ | refine wE1 ?_ | refine wE2 ?_ | (refine wE3 ?_; intro _) | (refine wE4 ?_; intro _) | refine wN ?_ | ((with_reducible show evIs _ (_ :: _) _ _); first | refine wQ ?_ | refine wF ?_ | refine wG ?_ | refine wT ?_ | refine wM ?_ | refine wS ?_ | refine wP ?_ | refine wJ ?_ | refine wX ?_ | refine wY ?_))
    clear hF
    repeat refine evDone ?_
    try (show AW _ _ _ _ _)
    refine AW.ret (retI (r := resE (zeroF, 16)) (by simp [leaveF]) ?_)
    simp [resE, zeroF, Frame.ao, avs, a24_res, resOk, resP, resV, ARes.op, R2s, R2, R1s, R1, closeOk, closeV]
  have hmt : (((ms ++ [m]).map Mark.av).take ms.length) = ms.map Mark.av := by simp
  have hcm : ∀ x ∈ (ms ++ [m]).map Mark.av, (cellsOf x).length = 10 := by
    intro x hx
    obtain ⟨y, _, rfl⟩ := List.mem_map.1 hx
    simp
  have hm2 : ((ms ++ [m]).map Mark.av).length = ms.length + 1 := by simp
  have hm3 : (ms ++ [m]).length = ms.length + 1 := by simp
  have hem : elemAt ((ms ++ [m]).map Mark.av) ms.length = m.av := by simp [elemAt]
  have hlv : leaveF ⟨fn, pc, slots, stack, ms ++ [m]⟩ = if m.kind = 1 ∨ m.kind = 2 then (⟨fn, pc, slots, stack, ms⟩, 0) else (zeroF, 16) := by simp [leaveF]
  rw [hlv]
  clear hlv
  delta FramePost at h44
  dsimp only at h44
  simp only [hm3] at h44
  obtain ⟨ys, hys⟩ : ∃ ys, ys = (ms ++ [m]).map Mark.av := ⟨_, rfl⟩
  rw [← hys] at hmt hcm hm2 hem h44 ⊢
  clear hys
  obtain ⟨kind, target, slot, height, us, tk, tn, tt, ti, ts⟩ := m
  simp only [Mark.av] at hem
  dsimp only
  simp only [hm3] at hml
  have hp : ¬ (ms.length : Int) + 1 = 0 := by omega
  have hw : IntKind.i64.wrap (ms.length : Int) = (ms.length : Int) := i64_in _ ⟨by omega, by omega⟩
  have h2 : (0 : Int) ≤ ms.length := by omega
  have h3 : (ms.length : Int) < (ms.length : Int) + 1 := by omega
  have h4 : (ms.length : Int) ≤ (ms.length : Int) + 1 := by omega
  have h5 : ms.length ≤ ms.length + 1 := by omega
  by_cases k1 : kind = 1
  · subst k1
    repeat refine AW.seq ?_
    refine AW.reg ?_
    have hF := And.intro (hp) (And.intro (hw) (And.intro (h2) (And.intro (h3) (And.intro (hm2) (hem)))))
    repeat (first | refine wD1 ?_ | refine wD2 ?_ | refine wE1 ?_ | refine wE2 ?_ | (refine wE3 ?_; intro _) | (refine wE4 ?_; intro _) | refine wN ?_ | ((with_reducible show evIs _ (_ :: _) _ _); first | refine wQ ?_ | refine wF ?_ | refine wG ?_ | refine wT ?_ | refine wM ?_ | refine wS ?_ | refine wP ?_ | refine wJ ?_ | refine wX ?_ | refine wY ?_))
    clear hF
    repeat refine evDone ?_
    try (show AW _ _ _ _ _)
    repeat refine AW.seq ?_
    refine AW.condF (by simp []) (by simp []) ?_
    refine AW.skip ?_
    show AW _ _ _ _ _
    repeat refine AW.seq ?_
    refine AW.reg ?_
    have hF := hm2
    repeat (first | refine wD1 ?_ | refine wD2 ?_ | refine wE1 ?_ | refine wE2 ?_ | (refine wE3 ?_; intro _) | (refine wE4 ?_; intro _) | refine wN ?_ | ((with_reducible show evIs _ (_ :: _) _ _); first | refine wQ ?_ | refine wF ?_ | refine wG ?_ | refine wT ?_ | refine wM ?_ | refine wS ?_ | refine wP ?_ | refine wJ ?_ | refine wX ?_ | refine wY ?_))
    clear hF
    repeat refine evDone ?_
    try (show AW _ _ _ _ _)
    have hF := True.intro
    refine wL (hA := h44) ?_
    clear hF
    rintro _ n' _ ⟨S, M, hSM, hS, hM, hSn, hMn, rfl, rfl⟩
    have hN : (∀ c, c < 100 → (S = c) = False) ∧ (∀ c, c < 100 → (c = S) = False) ∧ (∀ c, c < 100 → (M = c) = False) ∧ (∀ c, c < 100 → (c = M) = False) ∧ (S = M) = False ∧ (M = S) = False := by
      refine ⟨?_, ?_, ?_, ?_, ?_, ?_⟩ <;> first | exact fun c hc => eq_false (by omega) | exact eq_false (by omega)
    have hF := hN
    repeat (first | refine wD1 ?_ | refine wD2 ?_ | refine wE1 ?_ | refine wE2 ?_ | (refine wE3 ?_; intro _) | (refine wE4 ?_; intro _) | refine wN ?_ | ((with_reducible show evIs _ (_ :: _) _ _); first | refine wQ ?_ | refine wF ?_ | refine wG ?_ | refine wT ?_ | refine wM ?_ | refine wS ?_ | refine wP ?_ | refine wJ ?_ | refine wX ?_ | refine wY ?_))
    clear hF
    repeat refine evDone ?_
    try (show AW _ _ _ _ _)
    repeat refine AW.seq ?_
    refine AW.reg ?_
    have hF := And.intro (hw) (And.intro (h2) (And.intro (h4) (And.intro (h5) (And.intro (hm2) (hN)))))
    repeat (first | refine wD1 ?_ | refine wD2 ?_ | refine wE1 ?_ | refine wE2 ?_ | (refine wE3 ?_; intro _) | (refine wE4 ?_; intro _) | refine wN ?_ | ((with_reducible show evIs _ (_ :: _) _ _); first | refine wQ ?_ | refine wF ?_ | refine wG ?_ | refine wT ?_ | refine wM ?_ | refine wS ?_ | refine wP ?_ | refine wJ ?_ | refine wX ?_ | refine wY ?_))
    clear hF
    repeat refine evDone ?_
    try (show AW _ _ _ _ _)
    repeat refine AW.seq ?_
    refine AW.reg ?_
    have hF := hN
    repeat (first | refine wD1 ?_ | refine wD2 ?_ | refine wE1 ?_ | refine wE2 ?_ | (refine wE3 ?_; intro _) | (refine wE4 ?_; intro _) | refine wN ?_ | ((with_reducible show evIs _ (_ :: _) _ _); first | refine wQ ?_ | refine wF ?_ | refine wG ?_ | refine wT ?_ | refine wM ?_ | refine wS ?_ | refine wP ?_ | refine wJ ?_ | refine wX ?_ | refine wY ?_))
    clear hF
    repeat refine evDone ?_
    try (show AW _ _ _ _ _)
    have ht5 : (avs slots).take slots.length = avs slots := List.take_of_length_le (by simp)
    refine AW.ret (retI (r := resE (⟨fn, pc, slots, stack, ms⟩, 0)) (by simp) ?_)
    simp [resE, Frame.ao, a24_res, ht5, hmt, hm2, hN, h5, resOk, resP, resV, ARes.op, R2s, R2, R1s, R1, closeOk, closeV]
  · by_cases k2 : kind = 2
    · subst k2
      repeat refine AW.seq ?_
      refine AW.reg ?_
      have hF := And.intro (hp) (And.intro (hw) (And.intro (h2) (And.intro (h3) (And.intro (hm2) (hem)))))
      repeat (first | refine wD1 ?_ | refine wD2 ?_ | refine wE1 ?_ | refine wE2 ?_ | (refine wE3 ?_; intro _) | (refine wE4 ?_; intro _) | refine wN ?_ | ((with_reducible show evIs _ (_ :: _) _ _); first | refine wQ ?_ | refine wF ?_ | refine wG ?_ | refine wT ?_ | refine wM ?_ | refine wS ?_ | refine wP ?_ | refine wJ ?_ | refine wX ?_ | refine wY ?_))
      clear hF
      repeat refine evDone ?_
      try (show AW _ _ _ _ _)
      repeat refine AW.seq ?_
      refine AW.condF (by simp []) (by simp []) ?_
      refine AW.skip ?_
      show AW _ _ _ _ _
      repeat refine AW.seq ?_
      refine AW.reg ?_
      have hF := hm2
      repeat (first | refine wD1 ?_ | refine wD2 ?_ | refine wE1 ?_ | refine wE2 ?_ | (refine wE3 ?_; intro _) | (refine wE4 ?_; intro _) | refine wN ?_ | ((with_reducible show evIs _ (_ :: _) _ _); first | refine wQ ?_ | refine wF ?_ | refine wG ?_ | refine wT ?_ | refine wM ?_ | refine wS ?_ | refine wP ?_ | refine wJ ?_ | refine wX ?_ | refine wY ?_))
      clear hF
      repeat refine evDone ?_
      try (show AW _ _ _ _ _)
      have hF := True.intro
      refine wL (hA := h44) ?_
      clear hF
      rintro _ n' _ ⟨S, M, hSM, hS, hM, hSn, hMn, rfl, rfl⟩
      have hN : (∀ c, c < 100 → (S = c) = False) ∧ (∀ c, c < 100 → (c = S) = False) ∧ (∀ c, c < 100 → (M = c) = False) ∧ (∀ c, c < 100 → (c = M) = False) ∧ (S = M) = False ∧ (M = S) = False := by
        refine ⟨?_, ?_, ?_, ?_, ?_, ?_⟩ <;> first | exact fun c hc => eq_false (by omega) | exact eq_false (by omega)
      have hF := hN
      repeat (first | refine wD1 ?_ | refine wD2 ?_ | refine wE1 ?_ | refine wE2 ?_ | (refine wE3 ?_; intro _) | (refine wE4 ?_; intro _) | refine wN ?_ | ((with_reducible show evIs _ (_ :: _) _ _); first | refine wQ ?_ | refine wF ?_ | refine wG ?_ | refine wT ?_ | refine wM ?_ | refine wS ?_ | refine wP ?_ | refine wJ ?_ | refine wX ?_ | refine wY ?_))
      clear hF
      repeat refine evDone ?_
      try (show AW _ _ _ _ _)
      repeat refine AW.seq ?_
      refine AW.reg ?_
      have hF := And.intro (hw) (And.intro (h2) (And.intro (h4) (And.intro (h5) (And.intro (hm2) (hN)))))
      repeat (first | refine wD1 ?_ | refine wD2 ?_ | refine wE1 ?_ | refine wE2 ?_ | (refine wE3 ?_; intro _) | (refine wE4 ?_; intro _) | refine wN ?_ | ((with_reducible show evIs _ (_ :: _) _ _); first | refine wQ ?_ | refine wF ?_ | refine wG ?_ | refine wT ?_ | refine wM ?_ | refine wS ?_ | refine wP ?_ | refine wJ ?_ | refine wX ?_ | refine wY ?_))
      clear hF
      repeat refine evDone ?_
      try (show AW _ _ _ _ _)
      repeat refine AW.seq ?_
      refine AW.reg ?_
      have hF := hN
      repeat (first | refine wD1 ?_ | refine wD2 ?_ | refine wE1 ?_ | refine wE2 ?_ | (refine wE3 ?_; intro _) | (refine wE4 ?_; intro _) | refine wN ?_ | ((with_reducible show evIs _ (_ :: _) _ _); first | refine wQ ?_ | refine wF ?_ | refine wG ?_ | refine wT ?_ | refine wM ?_ | refine wS ?_ | refine wP ?_ | refine wJ ?_ | refine wX ?_ | refine wY ?_))
      clear hF
      repeat refine evDone ?_
      try (show AW _ _ _ _ _)
      have ht5 : (avs slots).take slots.length = avs slots := List.take_of_length_le (by simp)
      refine AW.ret (retI (r := resE (⟨fn, pc, slots, stack, ms⟩, 0)) (by simp) ?_)
      simp [resE, Frame.ao, a24_res, ht5, hmt, hm2, hN, h5, resOk, resP, resV, ARes.op, R2s, R2, R1s, R1, closeOk, closeV]
    · repeat refine AW.seq ?_
      refine AW.reg ?_
      repeat (first
        | refine evD1 rfl rfl rfl ?_
        | refine evD2 rfl rfl rfl ?_
        | (refine evD1g rfl rfl rfl ?_ ?_; (focus (simp [hp, hw, h2, h3, hm2, hem, k1, k2]; done)))
        | (refine evD2g rfl rfl rfl ?_ ?_; (focus (simp [hp, hw, h2, h3, hm2, hem, k1, k2]; done)))
        | (refine evN ?_ ?_; (focus (first | exact trivial | (simp [hp, hw, h2, h3, hm2, hem, k1, k2, wsOf, List.lookup, rechecks, recheck, ok1, val1]; done))))
        | (with_reducible show evIs _ (_ :: _) _ _
           first
            | (refine evQ rfl rfl rfl (by conv => lhs; (try simp [hp, hw, h2, h3, hm2, hem, k1, k2])) ?_ ?_; (focus (simp [hp, hw, h2, h3, hm2, hem, k1, k2]; done)))
            | (refine evF rfl rfl ?_ ?_ ?_; (focus (simp [hp, hw, h2, h3, hm2, hem, k1, k2]; done)); (focus (simp [hp, hw, h2, h3, hm2, hem, k1, k2]; done)))
            | (refine evG rfl rfl rfl (by conv => lhs; (try simp [hp, hw, h2, h3, hm2, hem, k1, k2])) (by conv => lhs; (try simp [hp, hw, h2, h3, hm2, hem, k1, k2])) ?_ ?_ ?_; (focus (simp [hp, hw, h2, h3, hm2, hem, k1, k2]; done)); (focus (simp [hp, hw, h2, h3, hm2, hem, k1, k2]; done)))
            | (refine evT1 rfl ?_ rfl ?_ ?_; (focus (simp [hp, hw, h2, h3, hm2, hem, k1, k2]; done)); (focus (simp [hp, hw, h2, h3, hm2, hem, k1, k2]; done)))
            | (refine evM rfl rfl rfl (by conv => lhs; (try simp)) (by conv => lhs; (try simp [hp, hw, h2, h3, hm2, hem, k1, k2])) ?_ ?_; (focus (simp [hp, hw, h2, h3, hm2, hem, k1, k2]; done)))
            | (refine evS rfl rfl rfl (by conv => lhs; (try simp [hp, hw, h2, h3, hm2, hem, k1, k2])) (by conv => lhs; (try simp [hp, hw, h2, h3, hm2, hem, k1, k2])) (by conv => lhs; (try simp [hp, hw, h2, h3, hm2, hem, k1, k2, storeS, putAt, reCells, usedE])) ?_ ?_ ?_ ?_; (focus (simp [hp, hw, h2, h3, hm2, hem, k1, k2]; done)); (focus (simp [hp, hw, h2, h3, hm2, hem, k1, k2]; done)); (focus (simp [hp, hw, h2, h3, hm2, hem, k1, k2, storeOk]; done)))
            | (refine evAp rfl rfl rfl (by conv => lhs; (try simp)) (by conv => lhs; (try simp [hp, hw, h2, h3, hm2, hem, k1, k2])) (by conv => lhs; (try simp [hp, hw, h2, h3, hm2, hem, k1, k2])) (by conv => lhs; (try simp [hp, hw, h2, h3, hm2, hem, k1, k2, appS])) (by conv => lhs; (try simp [hp, hw, h2, h3, hm2, hem, k1, k2])) ?_ ?_ ?_ ?_; (focus (simp [hp, hw, h2, h3, hm2, hem, k1, k2]; done)); (focus (simp [hp, hw, h2, h3, hm2, hem, k1, k2]; done)); (focus (simp [hp, hw, h2, h3, hm2, hem, k1, k2, appOk]; done)))))
      repeat refine evDone ?_
      try (show AW _ _ _ _ _)
      repeat refine AW.seq ?_
      refine AW.condT (by simp [k1, k2]) (by simp [k1, k2]) ?_
      repeat refine AW.seq ?_
      refine AW.reg ?_
      have hF := True.intro
      repeat (first | refine wD1 ?_ | refine wD2 ?_ | refine wE1 ?_ | refine wE2 ?_ | (refine wE3 ?_; intro _) | (refine wE4 ?_; intro _) | refine wN ?_ | ((with_reducible show evIs _ (_ :: _) _ _); first | refine wQ ?_ | refine wF ?_ | refine wG ?_ | refine wT ?_ | refine wM ?_ | refine wS ?_ | refine wP ?_ | refine wJ ?_ | refine wX ?_ | refine wY ?_))
      clear hF
      repeat refine evDone ?_
      try (show AW _ _ _ _ _)
      refine AW.ret (retI (r := resE (zeroF, 16)) (by simp [k1, k2]) ?_)
      simp [resE, zeroF, Frame.ao, avs, a24_res, resOk, resP, resV, ARes.op, R2s, R2, R1s, R1, closeOk, closeV]
theorem f25 (f : Frame) (hok : f.ok2) : ACall Try.prog 25 [f.av] (· = resE (leaveF f)) := by
  have h44 := f45 100 f hok.1
  have hml : f.marks.length ≤ 12 := hok.2
  obtain ⟨fn, pc, slots, stack, marks⟩ := f
  simp only [Frame.av] at h44 ⊢
  dsimp only at hml
  refine a25_of (by simp) ?_
  repeat refine AW.seq ?_
  refine AW.reg ?_
  have hF := True.intro
  repeat (first | refine wD1 ?_ | refine wD2 ?_ | refine wE1 ?_ | refine wE2 ?_ | (refine wE3 ?_; intro _) | (refine wE4 ?_; intro _) | refine wN ?_ | ((with_reducible show evIs _ (_ :: _) _ _); first | refine wQ ?_ | refine wF ?_ | refine wG ?_ | refine wT ?_ | refine wM ?_ | refine wS ?_ | refine wP ?_ | refine wJ ?_ | refine wX ?_ | refine wY ?_))
  clear hF
  repeat refine evDone ?_
  try (show AW _ _ _ _ _)
  repeat refine AW.seq ?_
  refine AW.reg ?_
  have hF := True.intro
  repeat (first | refine wD1 ?_ | refine wD2 ?_ | refine wE1 ?_ | refine wE2 ?_ | (refine wE3 ?_; intro _) | (refine wE4 ?_; intro _) | refine wN ?_ | ((with_reducible show evIs _ (_ :: _) _ _); first | refine wQ ?_ | refine wF ?_ | refine wG ?_ | refine wT ?_ | refine wM ?_ | refine wS ?_ | refine wP ?_ | refine wJ ?_ | refine wX ?_ | refine wY ?_))
  clear hF
  repeat refine evDone ?_
  try (show AW _ _ _ _ _)
  rcases snoc_cases marks with rfl | ⟨ms, m, rfl⟩
  · simp only [List.map_nil, List.length_nil]
    repeat refine AW.seq ?_
    refine AW.reg ?_
    have hF := True.intro
    repeat (first | refine wD1 ?_ | refine wD2 ?_ | refine wE1 ?_ | refine wE2 ?_ | (refine wE3 ?_; intro _) | (refine wE4 ?_; intro _) | refine wN ?_ | ((with_reducible show evIs _ (_ :: _) _ _); first | refine wQ ?_ | refine wF ?_ | refine wG ?_ | refine wT ?_ | refine wM ?_ | refine wS ?_ | refine wP ?_ | refine wJ ?_ | refine wX ?_ | refine wY ?_))
    clear hF
    repeat refine evDone ?_
    try (show AW _ _ _ _ _)
    repeat refine AW.seq ?_
    refine AW.condT (by simp []) (by simp []) ?_
    repeat refine AW.seq ?_
    refine AW.reg ?_
    have hF := True.intro
    repeat (first | refine wD1 ?_ | refine wD2 ?_ | refine wE1 ?_ | refine wE2 ?_ | (refine wE3 ?_; intro _) | (refine wE4 ?_; intro _) | refine wN ?_ | ((with_reducible show evIs _ (_ :: _) _ _); first | refine wQ ?_ | refine wF ?_ | refine wG ?_ | refine wT ?_ | refine wM ?_ | refine wS ?_ | refine wP ?_ | refine wJ ?_ | refine wX ?_ | refine wY ?_))
    clear hF
    repeat refine evDone ?_
    try (show AW _ _ _ _ _)
    refine AW.ret (retI (r := resE (zeroF, 16)) (by simp [leaveF]) ?_)
    simp [resE, zeroF, Frame.ao, avs, a25_res, resOk, resP, resV, ARes.op, R2s, R2, R1s, R1, closeOk, closeV]
  have hmt : (((ms ++ [m]).map Mark.av).take ms.length) = ms.map Mark.av := by simp
  have hcm : ∀ x ∈ (ms ++ [m]).map Mark.av, (cellsOf x).length = 10 := by
    intro x hx
    obtain ⟨y, _, rfl⟩ := List.mem_map.1 hx
    simp
  have hm2 : ((ms ++ [m]).map Mark.av).length = ms.length + 1 := by simp
  have hm3 : (ms ++ [m]).length = ms.length + 1 := by simp
  have hem : elemAt ((ms ++ [m]).map Mark.av) ms.length = m.av := by simp [elemAt]
  have hlv : leaveF ⟨fn, pc, slots, stack, ms ++ [m]⟩ = if m.kind = 1 ∨ m.kind = 2 then (⟨fn, pc, slots, stack, ms⟩, 0) else (zeroF, 16) := by simp [leaveF]
  rw [hlv]
  clear hlv
  delta FramePost at h44
  dsimp only at h44
  simp only [hm3] at h44
  obtain ⟨ys, hys⟩ : ∃ ys, ys = (ms ++ [m]).map Mark.av := ⟨_, rfl⟩
  rw [← hys] at hmt hcm hm2 hem h44 ⊢
  clear hys
  obtain ⟨kind, target, slot, height, us, tk, tn, tt, ti, ts⟩ := m
  simp only [Mark.av] at hem
  dsimp only
  simp only [hm3] at hml
  have hp : ¬ (ms.length : Int) + 1 = 0 := by omega
  have hw : IntKind.i64.wrap (ms.length : Int) = (ms.length : Int) := i64_in _ ⟨by omega, by omega⟩
  have h2 : (0 : Int) ≤ ms.length := by omega
  have h3 : (ms.length : Int) < (ms.length : Int) + 1 := by omega
  have h4 : (ms.length : Int) ≤ (ms.length : Int) + 1 := by omega
  have h5 : ms.length ≤ ms.length + 1 := by omega
  by_cases k1 : kind = 1
  · subst k1
    repeat refine AW.seq ?_
    refine AW.reg ?_
    have hF := And.intro (hp) (And.intro (hw) (And.intro (h2) (And.intro (h3) (And.intro (hm2) (hem)))))
    repeat (first | refine wD1 ?_ | refine wD2 ?_ | refine wE1 ?_ | refine wE2 ?_ | (refine wE3 ?_; intro _) | (refine wE4 ?_; intro _) | refine wN ?_ | ((with_reducible show evIs _ (_ :: _) _ _); first | refine wQ ?_ | refine wF ?_ | refine wG ?_ | refine wT ?_ | refine wM ?_ | refine wS ?_ | refine wP ?_ | refine wJ ?_ | refine wX ?_ | refine wY ?_))
    clear hF
    repeat refine evDone ?_
    try (show AW _ _ _ _ _)
    repeat refine AW.seq ?_
    refine AW.condF (by simp []) (by simp []) ?_
    refine AW.skip ?_
    show AW _ _ _ _ _
    repeat refine AW.seq ?_
    refine AW.reg ?_
    have hF := hm2
    repeat (first | refine wD1 ?_ | refine wD2 ?_ | refine wE1 ?_ | refine wE2 ?_ | (refine wE3 ?_; intro _) | (refine wE4 ?_; intro _) | refine wN ?_ | ((with_reducible show evIs _ (_ :: _) _ _); first | refine wQ ?_ | refine wF ?_ | refine wG ?_ | refine wT ?_ | refine wM ?_ | refine wS ?_ | refine wP ?_ | refine wJ ?_ | refine wX ?_ | refine wY ?_))
    clear hF
    repeat refine evDone ?_
    try (show AW _ _ _ _ _)
    have hF := True.intro
    refine wL (hA := h44) ?_
    clear hF
    rintro _ n' _ ⟨S, M, hSM, hS, hM, hSn, hMn, rfl, rfl⟩
    have hN : (∀ c, c < 100 → (S = c) = False) ∧ (∀ c, c < 100 → (c = S) = False) ∧ (∀ c, c < 100 → (M = c) = False) ∧ (∀ c, c < 100 → (c = M) = False) ∧ (S = M) = False ∧ (M = S) = False := by
      refine ⟨?_, ?_, ?_, ?_, ?_, ?_⟩ <;> first | exact fun c hc => eq_false (by omega) | exact eq_false (by omega)
    have hF := hN
    repeat (first | refine wD1 ?_ | refine wD2 ?_ | refine wE1 ?_ | refine wE2 ?_ | (refine wE3 ?_; intro _) | (refine wE4 ?_; intro _) | refine wN ?_ | ((with_reducible show evIs _ (_ :: _) _ _); first | refine wQ ?_ | refine wF ?_ | refine wG ?_ | refine wT ?_ | refine wM ?_ | refine wS ?_ | refine wP ?_ | refine wJ ?_ | refine wX ?_ | refine wY ?_))
    clear hF
    repeat refine evDone ?_
    try (show AW _ _ _ _ _)
    repeat refine AW.seq ?_
    refine AW.reg ?_
    have hF := And.intro (hw) (And.intro (h2) (And.intro (h4) (And.intro (h5) (And.intro (hm2) (hN)))))
    repeat (first | refine wD1 ?_ | refine wD2 ?_ | refine wE1 ?_ | refine wE2 ?_ | (refine wE3 ?_; intro _) | (refine wE4 ?_; intro _) | refine wN ?_ | ((with_reducible show evIs _ (_ :: _) _ _); first | refine wQ ?_ | refine wF ?_ | refine wG ?_ | refine wT ?_ | refine wM ?_ | refine wS ?_ | refine wP ?_ | refine wJ ?_ | refine wX ?_ | refine wY ?_))
    clear hF
    repeat refine evDone ?_
    try (show AW _ _ _ _ _)
    repeat refine AW.seq ?_
    refine AW.reg ?_
    have hF := hN
    repeat (first | refine wD1 ?_ | refine wD2 ?_ | refine wE1 ?_ | refine wE2 ?_ | (refine wE3 ?_; intro _) | (refine wE4 ?_; intro _) | refine wN ?_ | ((with_reducible show evIs _ (_ :: _) _ _); first | refine wQ ?_ | refine wF ?_ | refine wG ?_ | refine wT ?_ | refine wM ?_ | refine wS ?_ | refine wP ?_ | refine wJ ?_ | refine wX ?_ | refine wY ?_))
    clear hF
    repeat refine evDone ?_
    try (show AW _ _ _ _ _)
    have ht5 : (avs slots).take slots.length = avs slots := List.take_of_length_le (by simp)
    refine AW.ret (retI (r := resE (⟨fn, pc, slots, stack, ms⟩, 0)) (by simp) ?_)
    simp [resE, Frame.ao, a25_res, ht5, hmt, hm2, hN, h5, resOk, resP, resV, ARes.op, R2s, R2, R1s, R1, closeOk, closeV]
  · by_cases k2 : kind = 2
    · subst k2
      repeat refine AW.seq ?_
      refine AW.reg ?_
      have hF := And.intro (hp) (And.intro (hw) (And.intro (h2) (And.intro (h3) (And.intro (hm2) (hem)))))
      repeat (first | refine wD1 ?_ | refine wD2 ?_ | refine wE1 ?_ | refine wE2 ?_ | (refine wE3 ?_; intro _) | (refine wE4 ?_; intro _) | refine wN ?_ | ((with_reducible show evIs _ (_ :: _) _ _); first | refine wQ ?_ | refine wF ?_ | refine wG ?_ | refine wT ?_ | refine wM ?_ | refine wS ?_ | refine wP ?_ | refine wJ ?_ | refine wX ?_ | refine wY ?_))
      clear hF
      repeat refine evDone ?_
      try (show AW _ _ _ _ _)
      repeat refine AW.seq ?_
      refine AW.condF (by simp []) (by simp []) ?_
      refine AW.skip ?_
      show AW _ _ _ _ _
      repeat refine AW.seq ?_
      refine AW.reg ?_
      have hF := hm2
      repeat (first | refine wD1 ?_ | refine wD2 ?_ | refine wE1 ?_ | refine wE2 ?_ | (refine wE3 ?_; intro _) | (refine wE4 ?_; intro _) | refine wN ?_ | ((with_reducible show evIs _ (_ :: _) _ _); first | refine wQ ?_ | refine wF ?_ | refine wG ?_ | refine wT ?_ | refine wM ?_ | refine wS ?_ | refine wP ?_ | refine wJ ?_ | refine wX ?_ | refine wY ?_))
      clear hF
      repeat refine evDone ?_
      try (show AW _ _ _ _ _)
      have hF := True.intro
      refine wL (hA := h44) ?_
      clear hF
      rintro _ n' _ ⟨S, M, hSM, hS, hM, hSn, hMn, rfl, rfl⟩
      have hN : (∀ c, c < 100 → (S = c) = False) ∧ (∀ c, c < 100 → (c = S) = False) ∧ (∀ c, c < 100 → (M = c) = False) ∧ (∀ c, c < 100 → (c = M) = False) ∧ (S = M) = False ∧ (M = S) = False := by
        refine ⟨?_, ?_, ?_, ?_, ?_, ?_⟩ <;> first | exact fun c hc => eq_false (by omega) | exact eq_false (by omega)
      have hF := hN
      repeat (first | refine wD1 ?_ | refine wD2 ?_ | refine wE1 ?_ | refine wE2 ?_ | (refine wE3 ?_; intro _) | (refine wE4 ?_; intro _) | refine wN ?_ | ((with_reducible show evIs _ (_ :: _) _ _); first | refine wQ ?_ | refine wF ?_ | refine wG ?_ | refine wT ?_ | refine wM ?_ | refine wS ?_ | refine wP ?_ | refine wJ ?_ | refine wX ?_ | refine wY ?_))
      clear hF
      repeat refine evDone ?_
      try (show AW _ _ _ _ _)
      repeat refine AW.seq ?_
      refine AW.reg ?_
      have hF := And.intro (hw) (And.intro (h2) (And.intro (h4) (And.intro (h5) (And.intro (hm2) (hN)))))
      repeat (first | refine wD1 ?_ | refine wD2 ?_ | refine wE1 ?_ | refine wE2 ?_ | (refine wE3 ?_; intro _) | (refine wE4 ?_; intro _) | refine wN ?_ | ((with_reducible show evIs _ (_ :: _) _ _); first | refine wQ ?_ | refine wF ?_ | refine wG ?_ | refine wT ?_ | refine wM ?_ | refine wS ?_ | refine wP ?_ | refine wJ ?_ | refine wX ?_ | refine wY ?_))
      clear hF
      repeat refine evDone ?_
      try (show AW _ _ _ _ _)
      repeat refine AW.seq ?_
      refine AW.reg ?_
      have hF := hN
      repeat (first | refine wD1 ?_ | refine wD2 ?_ | refine wE1 ?_ | refine wE2 ?_ | (refine wE3 ?_; intro _) | (refine wE4 ?_; intro _) | refine wN ?_ | ((with_reducible show evIs _ (_ :: _) _ _); first | refine wQ ?_ | refine wF ?_ | refine wG ?_ | refine wT ?_ | refine wM ?_ | refine wS ?_ | refine wP ?_ | refine wJ ?_ | refine wX ?_ | refine wY ?_))
      clear hF
      repeat refine evDone ?_
      try (show AW _ _ _ _ _)
      have ht5 : (avs slots).take slots.length = avs slots := List.take_of_length_le (by simp)
      refine AW.ret (retI (r := resE (⟨fn, pc, slots, stack, ms⟩, 0)) (by simp) ?_)
      simp [resE, Frame.ao, a25_res, ht5, hmt, hm2, hN, h5, resOk, resP, resV, ARes.op, R2s, R2, R1s, R1, closeOk, closeV]
    · repeat refine AW.seq ?_
      refine AW.reg ?_
      repeat (first
        | refine evD1 rfl rfl rfl ?_
        | refine evD2 rfl rfl rfl ?_
        | (refine evD1g rfl rfl rfl ?_ ?_; (focus (simp [hp, hw, h2, h3, hm2, hem, k1, k2]; done)))
        | (refine evD2g rfl rfl rfl ?_ ?_; (focus (simp [hp, hw, h2, h3, hm2, hem, k1, k2]; done)))
        | (refine evN ?_ ?_; (focus (first | exact trivial | (simp [hp, hw, h2, h3, hm2, hem, k1, k2, wsOf, List.lookup, rechecks, recheck, ok1, val1]; done))))
        | (with_reducible show evIs _ (_ :: _) _ _
           first
            | (refine evQ rfl rfl rfl (by conv => lhs; (try simp [hp, hw, h2, h3, hm2, hem, k1, k2])) ?_ ?_; (focus (simp [hp, hw, h2, h3, hm2, hem, k1, k2]; done)))
            | (refine evF rfl rfl ?_ ?_ ?_; (focus (simp [hp, hw, h2, h3, hm2, hem, k1, k2]; done)); (focus (simp [hp, hw, h2, h3, hm2, hem, k1, k2]; done)))
            | (refine evG rfl rfl rfl (by conv => lhs; (try simp [hp, hw, h2, h3, hm2, hem, k1, k2])) (by conv => lhs; (try simp [hp, hw, h2, h3, hm2, hem, k1, k2])) ?_ ?_ ?_; (focus (simp [hp, hw, h2, h3, hm2, hem, k1, k2]; done)); (focus (simp [hp, hw, h2, h3, hm2, hem, k1, k2]; done)))
            | (refine evT1 rfl ?_ rfl ?_ ?_; (focus (simp [hp, hw, h2, h3, hm2, hem, k1, k2]; done)); (focus (simp [hp, hw, h2, h3, hm2, hem, k1, k2]; done)))
            | (refine evM rfl rfl rfl (by conv => lhs; (try simp)) (by conv => lhs; (try simp [hp, hw, h2, h3, hm2, hem, k1, k2])) ?_ ?_; (focus (simp [hp, hw, h2, h3, hm2, hem, k1, k2]; done)))
            | (refine evS rfl rfl rfl (by conv => lhs; (try simp [hp, hw, h2, h3, hm2, hem, k1, k2])) (by conv => lhs; (try simp [hp, hw, h2, h3, hm2, hem, k1, k2])) (by conv => lhs; (try simp [hp, hw, h2, h3, hm2, hem, k1, k2, storeS, putAt, reCells, usedE])) ?_ ?_ ?_ ?_; (focus (simp [hp, hw, h2, h3, hm2, hem, k1, k2]; done)); (focus (simp [hp, hw, h2, h3, hm2, hem, k1, k2]; done)); (focus (simp [hp, hw, h2, h3, hm2, hem, k1, k2, storeOk]; done)))
            | (refine evAp rfl rfl rfl (by conv => lhs; (try simp)) (by conv => lhs; (try simp [hp, hw, h2, h3, hm2, hem, k1, k2])) (by conv => lhs; (try simp [hp, hw, h2, h3, hm2, hem, k1, k2])) (by conv => lhs; (try simp [hp, hw, h2, h3, hm2, hem, k1, k2, appS])) (by conv => lhs; (try simp [hp, hw, h2, h3, hm2, hem, k1, k2])) ?_ ?_ ?_ ?_; (focus (simp [hp, hw, h2, h3, hm2, hem, k1, k2]; done)); (focus (simp [hp, hw, h2, h3, hm2, hem, k1, k2]; done)); (focus (simp [hp, hw, h2, h3, hm2, hem, k1, k2, appOk]; done)))))
      repeat refine evDone ?_
      try (show AW _ _ _ _ _)
      repeat refine AW.seq ?_
      refine AW.condT (by simp [k1, k2]) (by simp [k1, k2]) ?_
      repeat refine AW.seq ?_
      refine AW.reg ?_
      have hF := True.intro
      repeat (first | refine wD1 ?_ | refine wD2 ?_ | refine wE1 ?_ | refine wE2 ?_ | (refine wE3 ?_; intro _) | (refine wE4 ?_; intro _) | refine wN ?_ | ((with_reducible show evIs _ (_ :: _) _ _); first | refine wQ ?_ | refine wF ?_ | refine wG ?_ | refine wT ?_ | refine wM ?_ | refine wS ?_ | refine wP ?_ | refine wJ ?_ | refine wX ?_ | refine wY ?_))
      clear hF
      repeat refine evDone ?_
      try (show AW _ _ _ _ _)
      refine AW.ret (retI (r := resE (zeroF, 16)) (by simp [k1, k2]) ?_)
      simp [resE, zeroF, Frame.ao, avs, a25_res, resOk, resP, resV, ARes.op, R2s, R2, R1s, R1, closeOk, closeV]
end Go.Proofs.Ytafkaofaioleiaa

set_option linter.unusedSimpArgs false
set_option linter.unusedVariables false
set_option maxHeartbeats 8000000
namespace Go.Proofs.Ytafkaofaioleiaa
open Go Go.Amb Go.IntWalk

theorem zeroF_ok : zeroF.ok := by simp [zeroF, Frame.ok, okvs]
theorem enterF_ok (f : Frame) (kind target slot : Int) (h : f.ok2) : (enterF f kind target slot).1.ok := by
  obtain ⟨⟨h1, h2, h3, h4, h5, h6⟩, h7⟩ := h
  have key : ∀ (k t s : Int), Frame.ok ⟨f.fn, f.pc, f.slots, f.stack, f.marks ++ [⟨k, t, s, f.stack.length, [], 0, 0, ⟨#[]⟩, [], []⟩]⟩ := by
    intro k t s
    refine ⟨h1, h2, h3, h4, by simp; omega, ?_⟩
    intro m hm
    simp only [List.mem_append, List.mem_singleton] at hm
    rcases hm with hm | rfl
    · exact h6 m hm
    · simp [Mark.ok, Val.okv, okvs]
  unfold enterF
  repeat' split
  all_goals first | exact zeroF_ok | exact key _ _ _
theorem leaveF_ok (f : Frame) (h : f.ok2) : (leaveF f).1.ok := by
  obtain ⟨⟨h1, h2, h3, h4, h5, h6⟩, h7⟩ := h
  unfold leaveF
  split
  · exact zeroF_ok
  · split
    · exact ⟨h1, h2, h3, h4, by simp; omega, fun m hm => h6 m ((List.dropLast_sublist _).subset hm)⟩
    · exact zeroF_ok
theorem f6 (f : Frame) (kind target slot : Int) (hok : f.ok) : ACall Try.prog 6 [f.av, .int .i64 kind, .int .i64 target, .int .i64 slot] (· = .bool true) := by
  have h10 := f10 [f] (by simpa using hok) (by simp)
  have h12 := f12
  have h22 := f22 f kind target slot
  have h23 := f23 f kind target slot
  have h24 := f24 f
  have h25 := f25 f
  have hE := enterF_ok f kind target slot
  have hL := leaveF_ok f
  have hm : f.marks.length ≤ 12 → f.ok2 := fun h => ⟨hok, h⟩
  obtain ⟨fn, pc, slots, stack, marks⟩ := f
  simp only [List.map_cons, List.map_nil, Frame.av] at h10 h22 h23 h24 h25 ⊢
  refine a6_of (by simp) ?_
  repeat refine AW.seq ?_
  refine AW.reg ?_
  have hF := True.intro
  repeat (first | refine wD1 ?_ | refine wD2 ?_ | refine wE1 ?_ | refine wE2 ?_ | (refine wE3 ?_; intro _) | (refine wE4 ?_; intro _) | refine wN ?_ | ((with_reducible show evIs _ (_ :: _) _ _); first | refine wQ ?_ | refine wF ?_ | refine wG ?_ | refine wT ?_ | refine wM ?_ | refine wS ?_ | refine wP ?_ | refine wJ ?_ | refine wX ?_ | refine wY ?_))
  clear hF
  repeat refine evDone ?_
  try (show AW _ _ _ _ _)
  repeat refine AW.seq ?_
  refine AW.reg ?_
  have hF := True.intro
  repeat (first | refine wD1 ?_ | refine wD2 ?_ | refine wE1 ?_ | refine wE2 ?_ | (refine wE3 ?_; intro _) | (refine wE4 ?_; intro _) | refine wN ?_ | ((with_reducible show evIs _ (_ :: _) _ _); first | refine wQ ?_ | refine wF ?_ | refine wG ?_ | refine wT ?_ | refine wM ?_ | refine wS ?_ | refine wP ?_ | refine wJ ?_ | refine wX ?_ | refine wY ?_))
  clear hF
  repeat refine evDone ?_
  try (show AW _ _ _ _ _)
  have hF := True.intro
  refine wB (hA := h10) ?_
  clear hF
  intro b1 hb1
  cases b1
  · have hok2 := hm (by have := (hb1 rfl).2; simpa using this)
    have h22 := h22 hok2
    have h23 := h23 hok2
    have h24 := h24 hok2
    have h25 := h25 hok2
    have hE := hE hok2
    have hL := hL hok2
    generalize enterF ⟨fn, pc, slots, stack, marks⟩ kind target slot = T at *
    generalize leaveF ⟨fn, pc, slots, stack, marks⟩ = U at *
    obtain ⟨g, e⟩ := T
    obtain ⟨k, e'⟩ := U
    have h26 := f26 g hE
    have h26b := f26 k hL
    obtain ⟨g1, g2, g3, g4, g5⟩ := g
    obtain ⟨k1, k2, k3, k4, k5⟩ := k
    have c1 := clC_avs g3
    have c2 := clC_avs g4
    have c3 := marks_cl g5
    have c4 := clC_avs k3
    have c5 := clC_avs k4
    have c6 := marks_cl k5
    simp only [Frame.av] at h26 h26b
    simp only [resE, Frame.ao] at h22 h23 h24 h25
    have hF := True.intro
    repeat (first | refine wD1 ?_ | refine wD2 ?_ | refine wE1 ?_ | refine wE2 ?_ | (refine wE3 ?_; intro _) | (refine wE4 ?_; intro _) | refine wN ?_ | ((with_reducible show evIs _ (_ :: _) _ _); first | refine wQ ?_ | refine wF ?_ | refine wG ?_ | refine wT ?_ | refine wM ?_ | refine wS ?_ | refine wP ?_ | refine wJ ?_ | refine wX ?_ | refine wY ?_))
    clear hF
    repeat refine evDone ?_
    try (show AW _ _ _ _ _)
    repeat refine AW.seq ?_
    refine AW.condF (by simp []) (by simp []) ?_
    refine AW.skip ?_
    show AW _ _ _ _ _
    repeat refine AW.seq ?_
    refine AW.reg ?_
    have hF := True.intro
    repeat (first | refine wD1 ?_ | refine wD2 ?_ | refine wE1 ?_ | refine wE2 ?_ | (refine wE3 ?_; intro _) | (refine wE4 ?_; intro _) | refine wN ?_ | ((with_reducible show evIs _ (_ :: _) _ _); first | refine wQ ?_ | refine wF ?_ | refine wG ?_ | refine wT ?_ | refine wM ?_ | refine wS ?_ | refine wP ?_ | refine wJ ?_ | refine wX ?_ | refine wY ?_))
    clear hF
    repeat refine evDone ?_
    try (show AW _ _ _ _ _)
    refine evC rfl rfl rfl rfl (by conv => lhs; (try simp [c1, c2, c3])) (by conv => lhs; (try simp [c1, c2, c3, fzB, fzQ])) (h22) (by conv => lhs; (try simp [c1, c2, c3, fzB, fzQ])) ?_ ?_ ?_
    (focus (simp [c1, c2, c3]; done))
    (focus (simp [c1, c2, c3, okB, okQ, noF, sc, scs]; done))
    have hF := True.intro
    repeat (first | refine wD1 ?_ | refine wD2 ?_ | refine wE1 ?_ | refine wE2 ?_ | (refine wE3 ?_; intro _) | (refine wE4 ?_; intro _) | refine wN ?_ | ((with_reducible show evIs _ (_ :: _) _ _); first | refine wQ ?_ | refine wF ?_ | refine wG ?_ | refine wT ?_ | refine wM ?_ | refine wS ?_ | refine wP ?_ | refine wJ ?_ | refine wX ?_ | refine wY ?_))
    clear hF
    repeat refine evDone ?_
    try (show AW _ _ _ _ _)
    repeat refine AW.seq ?_
    refine AW.reg ?_
    have hF := True.intro
    repeat (first | refine wD1 ?_ | refine wD2 ?_ | refine wE1 ?_ | refine wE2 ?_ | (refine wE3 ?_; intro _) | (refine wE4 ?_; intro _) | refine wN ?_ | ((with_reducible show evIs _ (_ :: _) _ _); first | refine wQ ?_ | refine wF ?_ | refine wG ?_ | refine wT ?_ | refine wM ?_ | refine wS ?_ | refine wP ?_ | refine wJ ?_ | refine wX ?_ | refine wY ?_))
    clear hF
    repeat refine evDone ?_
    try (show AW _ _ _ _ _)
    refine evC rfl rfl rfl rfl (by conv => lhs; (try simp [c1, c2, c3])) (by conv => lhs; (try simp [c1, c2, c3, fzB, fzQ])) (h23) (by conv => lhs; (try simp [c1, c2, c3, fzB, fzQ])) ?_ ?_ ?_
    (focus (simp [c1, c2, c3]; done))
    (focus (simp [c1, c2, c3, okB, okQ, noF, sc, scs]; done))
    have hF := True.intro
    repeat (first | refine wD1 ?_ | refine wD2 ?_ | refine wE1 ?_ | refine wE2 ?_ | (refine wE3 ?_; intro _) | (refine wE4 ?_; intro _) | refine wN ?_ | ((with_reducible show evIs _ (_ :: _) _ _); first | refine wQ ?_ | refine wF ?_ | refine wG ?_ | refine wT ?_ | refine wM ?_ | refine wS ?_ | refine wP ?_ | refine wJ ?_ | refine wX ?_ | refine wY ?_))
    clear hF
    repeat refine evDone ?_
    try (show AW _ _ _ _ _)
    repeat refine AW.seq ?_
    refine AW.reg ?_
    have hF := True.intro
    repeat (first | refine wD1 ?_ | refine wD2 ?_ | refine wE1 ?_ | refine wE2 ?_ | (refine wE3 ?_; intro _) | (refine wE4 ?_; intro _) | refine wN ?_ | ((with_reducible show evIs _ (_ :: _) _ _); first | refine wQ ?_ | refine wF ?_ | refine wG ?_ | refine wT ?_ | refine wM ?_ | refine wS ?_ | refine wP ?_ | refine wJ ?_ | refine wX ?_ | refine wY ?_))
    clear hF
    repeat refine evDone ?_
    try (show AW _ _ _ _ _)
    refine evC rfl rfl rfl rfl (by conv => lhs; (try simp [c4, c5, c6])) (by conv => lhs; (try simp [c4, c5, c6, fzB, fzQ])) (h24) (by conv => lhs; (try simp [c4, c5, c6, fzB, fzQ])) ?_ ?_ ?_
    (focus (simp [c4, c5, c6]; done))
    (focus (simp [c4, c5, c6, okB, okQ, noF, sc, scs]; done))
    have hF := True.intro
    repeat (first | refine wD1 ?_ | refine wD2 ?_ | refine wE1 ?_ | refine wE2 ?_ | (refine wE3 ?_; intro _) | (refine wE4 ?_; intro _) | refine wN ?_ | ((with_reducible show evIs _ (_ :: _) _ _); first | refine wQ ?_ | refine wF ?_ | refine wG ?_ | refine wT ?_ | refine wM ?_ | refine wS ?_ | refine wP ?_ | refine wJ ?_ | refine wX ?_ | refine wY ?_))
    clear hF
    repeat refine evDone ?_
    try (show AW _ _ _ _ _)
    repeat refine AW.seq ?_
    refine AW.reg ?_
    have hF := True.intro
    repeat (first | refine wD1 ?_ | refine wD2 ?_ | refine wE1 ?_ | refine wE2 ?_ | (refine wE3 ?_; intro _) | (refine wE4 ?_; intro _) | refine wN ?_ | ((with_reducible show evIs _ (_ :: _) _ _); first | refine wQ ?_ | refine wF ?_ | refine wG ?_ | refine wT ?_ | refine wM ?_ | refine wS ?_ | refine wP ?_ | refine wJ ?_ | refine wX ?_ | refine wY ?_))
    clear hF
    repeat refine evDone ?_
    try (show AW _ _ _ _ _)
    refine evC rfl rfl rfl rfl (by conv => lhs; (try simp [c4, c5, c6])) (by conv => lhs; (try simp [c4, c5, c6, fzB, fzQ])) (h25) (by conv => lhs; (try simp [c4, c5, c6, fzB, fzQ])) ?_ ?_ ?_
    (focus (simp [c4, c5, c6]; done))
    (focus (simp [c4, c5, c6, okB, okQ, noF, sc, scs]; done))
    have hF := True.intro
    repeat (first | refine wD1 ?_ | refine wD2 ?_ | refine wE1 ?_ | refine wE2 ?_ | (refine wE3 ?_; intro _) | (refine wE4 ?_; intro _) | refine wN ?_ | ((with_reducible show evIs _ (_ :: _) _ _); first | refine wQ ?_ | refine wF ?_ | refine wG ?_ | refine wT ?_ | refine wM ?_ | refine wS ?_ | refine wP ?_ | refine wJ ?_ | refine wX ?_ | refine wY ?_))
    clear hF
    repeat refine evDone ?_
    try (show AW _ _ _ _ _)
    repeat refine AW.seq ?_
    refine AW.reg ?_
    have hF := True.intro
    repeat (first | refine wD1 ?_ | refine wD2 ?_ | refine wE1 ?_ | refine wE2 ?_ | (refine wE3 ?_; intro _) | (refine wE4 ?_; intro _) | refine wN ?_ | ((with_reducible show evIs _ (_ :: _) _ _); first | refine wQ ?_ | refine wF ?_ | refine wG ?_ | refine wT ?_ | refine wM ?_ | refine wS ?_ | refine wP ?_ | refine wJ ?_ | refine wX ?_ | refine wY ?_))
    clear hF
    repeat refine evDone ?_
    try (show AW _ _ _ _ _)
    have hF := True.intro
    refine wC (hA := h26) ?_
    clear hF
    have hF := True.intro
    repeat (first | refine wD1 ?_ | refine wD2 ?_ | refine wE1 ?_ | refine wE2 ?_ | (refine wE3 ?_; intro _) | (refine wE4 ?_; intro _) | refine wN ?_ | ((with_reducible show evIs _ (_ :: _) _ _); first | refine wQ ?_ | refine wF ?_ | refine wG ?_ | refine wT ?_ | refine wM ?_ | refine wS ?_ | refine wP ?_ | refine wJ ?_ | refine wX ?_ | refine wY ?_))
    clear hF
    repeat refine evDone ?_
    try (show AW _ _ _ _ _)
    have hF := True.intro
    refine wC (hA := h26b) ?_
    clear hF
    have hF := True.intro
    repeat (first | refine wD1 ?_ | refine wD2 ?_ | refine wE1 ?_ | refine wE2 ?_ | (refine wE3 ?_; intro _) | (refine wE4 ?_; intro _) | refine wN ?_ | ((with_reducible show evIs _ (_ :: _) _ _); first | refine wQ ?_ | refine wF ?_ | refine wG ?_ | refine wT ?_ | refine wM ?_ | refine wS ?_ | refine wP ?_ | refine wJ ?_ | refine wX ?_ | refine wY ?_))
    clear hF
    repeat refine evDone ?_
    try (show AW _ _ _ _ _)
    have hF := True.intro
    refine wC (hA := h12) ?_
    clear hF
    have hF := True.intro
    repeat (first | refine wD1 ?_ | refine wD2 ?_ | refine wE1 ?_ | refine wE2 ?_ | (refine wE3 ?_; intro _) | (refine wE4 ?_; intro _) | refine wN ?_ | ((with_reducible show evIs _ (_ :: _) _ _); first | refine wQ ?_ | refine wF ?_ | refine wG ?_ | refine wT ?_ | refine wM ?_ | refine wS ?_ | refine wP ?_ | refine wJ ?_ | refine wX ?_ | refine wY ?_))
    clear hF
    repeat refine evDone ?_
    try (show AW _ _ _ _ _)
    refine AW.ret (retI rfl ?_)
    simp [a6_res, resOk, resP, resV, ARes.op, R2s, R2, R1s, R1, closeOk, closeV]
  · have hF := True.intro
    repeat (first | refine wD1 ?_ | refine wD2 ?_ | refine wE1 ?_ | refine wE2 ?_ | (refine wE3 ?_; intro _) | (refine wE4 ?_; intro _) | refine wN ?_ | ((with_reducible show evIs _ (_ :: _) _ _); first | refine wQ ?_ | refine wF ?_ | refine wG ?_ | refine wT ?_ | refine wM ?_ | refine wS ?_ | refine wP ?_ | refine wJ ?_ | refine wX ?_ | refine wY ?_))
    clear hF
    repeat refine evDone ?_
    try (show AW _ _ _ _ _)
    repeat refine AW.seq ?_
    refine AW.condT (by simp []) (by simp []) ?_
    repeat refine AW.seq ?_
    refine AW.reg ?_
    have hF := True.intro
    repeat (first | refine wD1 ?_ | refine wD2 ?_ | refine wE1 ?_ | refine wE2 ?_ | (refine wE3 ?_; intro _) | (refine wE4 ?_; intro _) | refine wN ?_ | ((with_reducible show evIs _ (_ :: _) _ _); first | refine wQ ?_ | refine wF ?_ | refine wG ?_ | refine wT ?_ | refine wM ?_ | refine wS ?_ | refine wP ?_ | refine wJ ?_ | refine wX ?_ | refine wY ?_))
    clear hF
    repeat refine evDone ?_
    try (show AW _ _ _ _ _)
    have hF := True.intro
    refine wC (hA := h12) ?_
    clear hF
    have hF := True.intro
    repeat (first | refine wD1 ?_ | refine wD2 ?_ | refine wE1 ?_ | refine wE2 ?_ | (refine wE3 ?_; intro _) | (refine wE4 ?_; intro _) | refine wN ?_ | ((with_reducible show evIs _ (_ :: _) _ _); first | refine wQ ?_ | refine wF ?_ | refine wG ?_ | refine wT ?_ | refine wM ?_ | refine wS ?_ | refine wP ?_ | refine wJ ?_ | refine wX ?_ | refine wY ?_))
    clear hF
    repeat refine evDone ?_
    try (show AW _ _ _ _ _)
    refine AW.ret (retI rfl ?_)
    simp [a6_res, resOk, resP, resV, ARes.op, R2s, R2, R1s, R1, closeOk, closeV]
end Go.Proofs.Ytafkaofaioleiaa
