/- Draws: calls under a guard that does not hold; what a guarded operation would have given is kept, so that it can be looked at again. -/
import Derived.Test.YtafkaofaioleiaaA2
import Derived.Test.YtafkaofaioleiaaS3

set_option linter.unusedSimpArgs false
set_option linter.unusedVariables false
namespace Go.Amb
open Go
section
variable {P : Program} {is : List AI} {ws : List (Nat × List Nat)} {i : Nat} {ii : AI} {s : Sch} {l : List Nat} {t : List (Nat × AV)} {h : Nat → Option Blk} {n : Nat} {u : Nat → Bool} {K : St → Prop} {d g : Nat} {b : Bool} {v : AV}
theorem evD2n (hi : is[i]? = some ii) (hg : ii.g = some (g, b)) (hl : wsOf ws i = l) (hq : ii.op.quiet = false) (hd : ii.dst = some d)
    (hc : gcond ⟨mkT t, h, n, u⟩ g b = false) (hk : gok ⟨mkT t, h, n, u⟩ g) (hr : evIs P [] ⟨mkT ((d, .grd false .undef) :: t), h, n, u⟩ (fun st' => rechecks is st' l ∧ evT P is ws s st' K)) : evT P is ws (.one i s) ⟨mkT t, h, n, u⟩ K := by
  subst hl
  simp only [evT, ev1t, hi]
  unfold ev1
  rw [hg]
  simp only [hq, Bool.false_eq_true, if_false, hd]
  exact ⟨hk, fun e => absurd (hc.symm.trans e) (by simp), fun _ => hr⟩
theorem evD1x (hi : is[i]? = some ii) (hg : ii.g = some (g, b)) (hl : wsOf ws i = l) (hq : ii.op.quiet = true) (hd : ii.dst = some d)
    (hc : gcond ⟨mkT t, h, n, u⟩ g b = false) (hk : gok ⟨mkT t, h, n, u⟩ g) (hv : vop ⟨mkT t, h, n, u⟩ ii.k ii.op = v) (hr : evIs P [] ⟨mkT ((d, .grd false v) :: t), h, n, u⟩ (fun st' => rechecks is st' l ∧ evT P is ws s st' K)) : evT P is ws (.take i s) ⟨mkT t, h, n, u⟩ K := by
  subst hl hv
  simp only [evT, ev1t, hi]
  rw [ev1_quiet hq]
  unfold ok1 val1
  rw [hg, hd]
  refine ⟨⟨hk, fun e => absurd (hc.symm.trans e) (by simp)⟩, ?_⟩
  simp only [hc]
  exact hr
theorem wE5 (h' : evIs P [] ⟨mkT ((d, .grd false .undef) :: t), h, n, u⟩ (fun st' => rechecks is st' l ∧ evT P is ws s st' K)) (hi : is[i]? = some ii := by exact rfl) (hg : ii.g = some (g, b) := by exact rfl) (hl : wsOf ws i = l := by exact rfl) (hq : ii.op.quiet = false := by exact rfl) (hd : ii.dst = some d := by exact rfl) (hc : gcond ⟨mkT t, h, n, u⟩ g b = false := by simp [hF, mkS, litA, fillA, maxI] <;> fail) (hk : gok ⟨mkT t, h, n, u⟩ g := by simp [hF, mkS, litA, fillA, maxI] <;> fail) : evT P is ws (.one i s) ⟨mkT t, h, n, u⟩ K :=
  evD2n hi hg hl hq hd hc hk h'
theorem wE6 (h' : evIs P [] ⟨mkT ((d, .grd false v) :: t), h, n, u⟩ (fun st' => rechecks is st' l ∧ evT P is ws s st' K)) (hi : is[i]? = some ii := by exact rfl) (hg : ii.g = some (g, b) := by exact rfl) (hl : wsOf ws i = l := by exact rfl) (hq : ii.op.quiet = true := by exact rfl) (hd : ii.dst = some d := by exact rfl) (hc : gcond ⟨mkT t, h, n, u⟩ g b = false := by simp [hF, mkS, litA, fillA, maxI] <;> fail) (hk : gok ⟨mkT t, h, n, u⟩ g := by simp [hF, mkS, litA, fillA, maxI] <;> fail) (hv : vop ⟨mkT t, h, n, u⟩ ii.k ii.op = v := by conv => lhs; (try simp [hF, mkS, litA, fillA, maxI])) : evT P is ws (.take i s) ⟨mkT t, h, n, u⟩ K :=
  evD1x hi hg hl hq hd hc hk hv h'
theorem wE7 (h' : evIs P [] ⟨mkT ((d, .grd false v) :: t), h, n, u⟩ (fun st' => rechecks is st' l ∧ evT P is ws s st' K)) (hi : is[i]? = some ii := by exact rfl) (hg : ii.g = some (g, b) := by exact rfl) (hl : wsOf ws i = l := by exact rfl) (hq : ii.op.quiet = true := by exact rfl) (hd : ii.dst = some d := by exact rfl) (hc : gcond ⟨mkT t, h, n, u⟩ g b = false := by simp [hF, mkS, litA, fillA, maxI] <;> fail) (hk : gok ⟨mkT t, h, n, u⟩ g := by simp [hF, mkS, litA, fillA, maxI] <;> fail) (hv : vop ⟨mkT t, h, n, u⟩ ii.k ii.op = v := by conv => lhs; (try simp [hF, mkS, litA, fillA, maxI])) : evT P is ws (.one i s) ⟨mkT t, h, n, u⟩ K :=
  evD1x (s := s) hi hg hl hq hd hc hk hv h'
end
end Go.Amb

set_option linter.unusedSimpArgs false
set_option linter.unusedVariables false
set_option maxHeartbeats 16000000
namespace Go.Proofs.Ytafkaofaioleiaa
open Go Go.Amb Go.IntWalk

/-- The last frame comes out of the one that was there, those below are as they were. -/
def Over (ls fs : List Frame) : Prop := fs = [] ∨ ∃ A f f0 rest, fs = A ++ [f] ∧ ls = A ++ f0 :: rest ∧ f.fn = f0.fn ∧ f.marks.length ≤ f0.marks.length
def OverT (ls : List Frame) (T : List Frame × Undo × Bool) : Prop :=
  match T with
  | (fs, u, true) => (∃ A f f0 rest, fs = A ++ [f] ∧ ls = A ++ f0 :: rest ∧ f.fn = f0.fn ∧ f.marks.length ≤ f0.marks.length) ∧ (0 ≤ u.fn → undoing fs = true)
  | (fs, u, false) => fs = [] ∧ u = noneU
theorem over_init {ls A : List Frame} {f f0 : Frame} {rest : List Frame} (h : ls = A ++ f0 :: rest) : Over ls A := by
  rcases snoc_cases A with rfl | ⟨B, x, rfl⟩
  · exact .inl rfl
  · exact .inr ⟨B, x, x, f0 :: rest, rfl, by simpa using h, rfl, Nat.le_refl _⟩
theorem over_refl (ls : List Frame) : Over ls ls := by
  rcases snoc_cases ls with rfl | ⟨B, x, rfl⟩
  · exact .inl rfl
  · exact .inr ⟨B, x, x, [], rfl, rfl, rfl, Nat.le_refl _⟩
theorem throwF_over (ls : List Frame) : ∀ (k : Nat) (fs : List Frame) (v : Val), Over ls fs → OverT ls (throwF k fs v) := by
  intro k
  induction k with
  | zero => intro fs v h; exact ⟨rfl, rfl⟩
  | succ k ih =>
    intro fs v h
    rcases h with rfl | ⟨A, f, f0, rest, rfl, hl, hf, hm⟩
    · rw [throwF_none]; exact ⟨rfl, rfl⟩
    rw [throwF_snoc]
    rcases snoc_cases f.marks with h0 | ⟨ms, m, h0⟩
    · rw [stepF_nil _ _ _ h0]
      exact ih _ _ (over_init (f := f) hl)
    · rw [stepF_snoc _ _ _ ms m h0]
      have hml : ms.length + 1 ≤ f0.marks.length := by rw [h0] at hm; simpa using hm
      by_cases h1 : m.kind = 1
      · rw [show stepM A f ms m v = _ from if_pos h1]
        exact ⟨⟨A, _, f0, rest, rfl, hl, hf, by dsimp only; omega⟩, fun h => absurd h (by simp [noneU])⟩
      by_cases h2 : m.kind = 2 ∨ m.kind = 3
      · cases hu : m.undos.getLast? with
        | none =>
          rw [show stepM A f ms m v = .go (A ++ [⟨f.fn, f.pc, f.slots, cutS f.stack m.height, ms⟩]) (m.now v).th by simp [stepM, h1, h2, hu]]
          exact ih _ _ (.inr ⟨A, _, f0, rest, rfl, hl, hf, by dsimp only; omega⟩)
        | some u =>
          rw [show stepM A f ms m v = .done (A ++ [⟨f.fn, f.pc, f.slots, cutS f.stack m.height, ms ++ [{ m.now v with undos := m.undos.dropLast }]⟩]) u true by simp [stepM, h1, h2, hu]]
          refine ⟨⟨A, _, f0, rest, rfl, hl, hf, by simp; omega⟩, fun _ => ?_⟩
          rw [undoing_some _ _ ms _ rfl]
          have : (m.now v).kind = 3 := by
            unfold Mark.now
            split
            · obtain ⟨a, b, c, d, e⟩ := v; rfl
            · rename_i h3; exact h2.resolve_left h3
          simp [this]
      · rw [show stepM A f ms m v = .go (A ++ [⟨f.fn, f.pc, f.slots, f.stack, ms⟩]) v by simp [stepM, h1, h2]]
        exact ih _ _ (.inr ⟨A, _, f0, rest, rfl, hl, hf, by dsimp only; omega⟩)
def belowC : ACode := (.seq a5_r17 (.seq (.seq a5_r18 (.cond (.t 99) (.seq a5_r19 .ret) .skip)) (.seq (.seq a5_r20 (.cond (.t 102) (.seq a5_r21 .ret) .skip)) (.seq a5_r22 (.seq a5_r23 .ret)))))
theorem below_none (h12 : ACall Try.prog 12 [] (· = .bool true)) (a b : Int) (c : ByteArray) (d : List Val) (e : List ByteArray) (n : Nat) (hn : 10 ≤ n) (Y : List AV) (h13 : ACall Try.prog 13 [.sl .fro Y, .agg [.int .i64 a, .int .i64 b, .str c, .sl .fro (avs d), .sl .fro (e.map .str)]] (· = .tup [.sl .ext [], .agg [.int .i64 (-1), .sl .fro []], .bool false])) : AW Try.prog 145 belowC (mkS [(0, .sl .fro Y), (3, .ptr 0 0 0)] [(0, ⟨5, true, [.agg [.int .i64 a, .int .i64 b, .str c, .sl .fro (avs d), .sl .fro (e.map .str)]]⟩)] n) (retQ a5_res (· = .bool true)) := by
  have hn0 : ∀ k, (0 = n + k) = False := fun k => eq_false (by omega)
  have hnl : ∀ k, (n + k < n) = False := fun k => eq_false (by omega)
  have hq0 : ¬ (Y.length : Int) < 0 := by omega
  repeat refine AW.seq ?_
  refine AW.reg ?_
  have hF := And.intro (hn0) (hnl)
  repeat (first | refine wD1 ?_ | refine wD2 ?_ | refine wE1 ?_ | refine wE2 ?_ | (refine wE3 ?_; intro _) | (refine wE4 ?_; intro _) | refine wN ?_ | ((with_reducible show evIs _ (_ :: _) _ _); first | refine wQ ?_ | refine wF ?_ | refine wG ?_ | refine wT ?_ | refine wM ?_ | refine wS ?_ | refine wP ?_ | refine wJ ?_ | refine wX ?_ | refine wY ?_))
  clear hF
  repeat refine evDone ?_
  try (show AW _ _ _ _ _)
  have hF := And.intro (hn0) (hnl)
  refine wC (hA := h13) ?_
  clear hF
  have hF := And.intro (hn0) (hnl)
  repeat (first | refine wD1 ?_ | refine wD2 ?_ | refine wE1 ?_ | refine wE2 ?_ | (refine wE3 ?_; intro _) | (refine wE4 ?_; intro _) | refine wN ?_ | ((with_reducible show evIs _ (_ :: _) _ _); first | refine wQ ?_ | refine wF ?_ | refine wG ?_ | refine wT ?_ | refine wM ?_ | refine wS ?_ | refine wP ?_ | refine wJ ?_ | refine wX ?_ | refine wY ?_))
  clear hF
  repeat refine evDone ?_
  try (show AW _ _ _ _ _)
  repeat refine AW.seq ?_
  refine AW.draw ?_
  have hF := And.intro (hq0) (And.intro (hn0) (hnl))
  repeat (first | refine wD1 ?_ | refine wD2 ?_ | refine wE1 ?_ | refine wE2 ?_ | refine wE6 ?_ | refine wE7 ?_ | refine wE5 ?_ | refine wN ?_ | ((with_reducible show evIs _ (_ :: _) _ _); first | refine wQ ?_ | refine wF ?_ | refine wG ?_ | refine wT ?_ | refine wM ?_ | refine wS ?_ | refine wP ?_ | refine wJ ?_ | refine wX ?_ | refine wY ?_))
  clear hF
  repeat refine evDone ?_
  try (show AW _ _ _ _ _)
  repeat refine AW.seq ?_
  refine AW.condF (by simp []) (by simp []) ?_
  refine AW.skip ?_
  show AW _ _ _ _ _
  repeat refine AW.seq ?_
  refine AW.reg ?_
  have hF := True.intro
  repeat (first | refine wD1 ?_ | refine wD2 ?_ | refine wE1 ?_ | refine wE2 ?_ | (refine wE3 ?_; intro _) | (refine wE4 ?_; intro _) | refine wN ?_ | ((with_reducible show evIs _ (_ :: _) _ _); first | refine wQ ?_ | refine wF ?_ | refine wG ?_ | refine wT ?_ | refine wM ?_ | refine wS ?_ | refine wP ?_ | refine wJ ?_ | refine wX ?_ | refine wY ?_))
  clear hF
  repeat refine evDone ?_
  try (show AW _ _ _ _ _)
  repeat refine AW.seq ?_
  refine AW.condT (by simp []) (by simp []) ?_
  repeat refine AW.seq ?_
  refine AW.reg ?_
  have hF := True.intro
  repeat (first | refine wD1 ?_ | refine wD2 ?_ | refine wE1 ?_ | refine wE2 ?_ | (refine wE3 ?_; intro _) | (refine wE4 ?_; intro _) | refine wN ?_ | ((with_reducible show evIs _ (_ :: _) _ _); first | refine wQ ?_ | refine wF ?_ | refine wG ?_ | refine wT ?_ | refine wM ?_ | refine wS ?_ | refine wP ?_ | refine wJ ?_ | refine wX ?_ | refine wY ?_))
  clear hF
  repeat refine evDone ?_
  try (show AW _ _ _ _ _)
  have hF := True.intro
  refine wC (hA := h12) ?_
  clear hF
  have hF := True.intro
  repeat (first | refine wD1 ?_ | refine wD2 ?_ | refine wE1 ?_ | refine wE2 ?_ | (refine wE3 ?_; intro _) | (refine wE4 ?_; intro _) | refine wN ?_ | ((with_reducible show evIs _ (_ :: _) _ _); first | refine wQ ?_ | refine wF ?_ | refine wG ?_ | refine wT ?_ | refine wM ?_ | refine wS ?_ | refine wP ?_ | refine wJ ?_ | refine wX ?_ | refine wY ?_))
  clear hF
  repeat refine evDone ?_
  try (show AW _ _ _ _ _)
  refine AW.ret (retI rfl ?_)
  simp [a5_res, resOk, resP, resV, ARes.op, R2s, R2, R1s, R1, closeOk, closeV]
theorem below_some (h12 : ACall Try.prog 12 [] (· = .bool true)) (a b : Int) (c : ByteArray) (d : List Val) (e : List ByteArray) (n : Nat) (hn : 10 ≤ n) (X Y XO Z M1 M2 : List AV) (k r : Nat) (u1 : Int) (u2 : List Val) (ub : Bool) (g1 g2 o2 : Int) (g3 g4 o3 o4 : List Val) (hkl : k < 1000) (h13 : ACall Try.prog 13 [.sl .fro Y, .agg [.int .i64 a, .int .i64 b, .str c, .sl .fro (avs d), .sl .fro (e.map .str)]] (· = .tup [.sl (.own 5) XO, .agg [.int .i64 u1, .sl .fro (avs u2)], .bool true])) (hao : XO.map clC = X) (hu2c : (avs u2).map clC = avs u2) (h20 : ACall Try.prog 20 [.sl .fro X] (· = .bool ub)) (h16 : ACall Try.prog 16 [.sl .fro Z, .sl .fro Z] (· = .bool true)) (hun : 0 ≤ u1 → ub = true) (hlX_ : X.length = k + 1) (hlY_ : Y.length = k + (r + 1)) (htX_ : X.take k = Z) (htY_ : Y.take k = Z) (heX_ : elemAt X k = .agg [.int .i64 g1, .int .i64 g2, .sl .fro (avs g3), .sl .fro (avs g4), .sl .fro M1]) (heY_ : elemAt Y k = .agg [.int .i64 g1, .int .i64 o2, .sl .fro (avs o3), .sl .fro (avs o4), .sl .fro M2]) (hcX_ : ∀ x ∈ X, (cellsOf x).length = 5) (hcY_ : ∀ x ∈ Y, (cellsOf x).length = 5) (hp8_ : (M1.length : Int) ≤ M2.length) : AW Try.prog 145 belowC (mkS [(0, .sl .fro Y), (3, .ptr 0 0 0)] [(0, ⟨5, true, [.agg [.int .i64 a, .int .i64 b, .str c, .sl .fro (avs d), .sl .fro (e.map .str)]]⟩)] n) (retQ a5_res (· = .bool true)) := by
  have hn0 : ∀ k, (0 = n + k) = False := fun k => eq_false (by omega)
  have hnl : ∀ k, (n + k < n) = False := fun k => eq_false (by omega)
  have hq1_ : ¬ (k : Int) + (r + 1) < k + 1 := by omega
  have hq2_ : (0 : Int) < (k : Int) + 1 := by omega
  have hq3_ : ¬ (k : Int) + 1 = 0 := by omega
  have hq4_ : ((k : Int) + 1 == 0) = false := by simp; omega
  have hw : IntKind.i64.wrap (k : Int) = (k : Int) := i64_in _ ⟨by omega, by omega⟩
  have hp1_ : (0 : Int) ≤ k := by omega
  have hp2_ : (k : Int) < (k : Int) + 1 := by omega
  have hp3_ : (k : Int) < (k : Int) + (r + 1) := by omega
  have hp4_ : (k : Int) ≤ (k : Int) + 1 := by omega
  have hp5_ : (k : Int) ≤ (k : Int) + (r + 1) := by omega
  have hp6_ : k ≤ k + 1 := by omega
  have hp7_ : k ≤ k + (r + 1) := by omega
  repeat refine AW.seq ?_
  refine AW.reg ?_
  have hF := And.intro (hn0) (hnl)
  repeat (first | refine wD1 ?_ | refine wD2 ?_ | refine wE1 ?_ | refine wE2 ?_ | (refine wE3 ?_; intro _) | (refine wE4 ?_; intro _) | refine wN ?_ | ((with_reducible show evIs _ (_ :: _) _ _); first | refine wQ ?_ | refine wF ?_ | refine wG ?_ | refine wT ?_ | refine wM ?_ | refine wS ?_ | refine wP ?_ | refine wJ ?_ | refine wX ?_ | refine wY ?_))
  clear hF
  repeat refine evDone ?_
  try (show AW _ _ _ _ _)
  have hF := And.intro (hao) (And.intro (hu2c) (And.intro (hn0) (hnl)))
  refine wC (hA := h13) ?_
  clear hF
  have hF := And.intro (hn0) (hnl)
  repeat (first | refine wD1 ?_ | refine wD2 ?_ | refine wE1 ?_ | refine wE2 ?_ | (refine wE3 ?_; intro _) | (refine wE4 ?_; intro _) | refine wN ?_ | ((with_reducible show evIs _ (_ :: _) _ _); first | refine wQ ?_ | refine wF ?_ | refine wG ?_ | refine wT ?_ | refine wM ?_ | refine wS ?_ | refine wP ?_ | refine wJ ?_ | refine wX ?_ | refine wY ?_))
  clear hF
  repeat refine evDone ?_
  try (show AW _ _ _ _ _)
  repeat refine AW.seq ?_
  refine AW.draw ?_
  have hF := And.intro (hlX_) (And.intro (hlY_) (And.intro (hq1_) (And.intro (hq2_) (And.intro (hq3_) (And.intro (hq4_) (And.intro (hn0) (hnl)))))))
  repeat (first | refine wD1 ?_ | refine wD2 ?_ | refine wE1 ?_ | refine wE2 ?_ | refine wE6 ?_ | refine wE7 ?_ | refine wE5 ?_ | refine wN ?_ | ((with_reducible show evIs _ (_ :: _) _ _); first | refine wQ ?_ | refine wF ?_ | refine wG ?_ | refine wT ?_ | refine wM ?_ | refine wS ?_ | refine wP ?_ | refine wJ ?_ | refine wX ?_ | refine wY ?_))
  clear hF
  repeat refine evDone ?_
  try (show AW _ _ _ _ _)
  have hF := And.intro (hlX_) (And.intro (hlY_) (And.intro (hq1_) (And.intro (hq2_) (And.intro (hq3_) (And.intro (hq4_) (And.intro (hn0) (hnl)))))))
  refine wC (hA := h20) ?_
  clear hF
  by_cases hu0 : 0 ≤ u1
  · have hund := hun hu0
    subst hund
    have hF := And.intro (hlX_) (And.intro (hlY_) (And.intro (hq1_) (And.intro (hq2_) (And.intro (hq3_) (And.intro (hq4_) (And.intro (hn0) (And.intro (hnl) (hu0))))))))
    repeat (first | refine wD1 ?_ | refine wD2 ?_ | refine wE1 ?_ | refine wE2 ?_ | refine wE6 ?_ | refine wE7 ?_ | refine wE5 ?_ | refine wN ?_ | ((with_reducible show evIs _ (_ :: _) _ _); first | refine wQ ?_ | refine wF ?_ | refine wG ?_ | refine wT ?_ | refine wM ?_ | refine wS ?_ | refine wP ?_ | refine wJ ?_ | refine wX ?_ | refine wY ?_))
    clear hF
    repeat refine evDone ?_
    try (show AW _ _ _ _ _)
    repeat refine AW.seq ?_
    refine AW.condF (by simp []) (by simp []) ?_
    refine AW.skip ?_
    show AW _ _ _ _ _
    repeat refine AW.seq ?_
    refine AW.reg ?_
    have hF := And.intro (hlX_) (And.intro (hq3_) (hq4_))
    repeat (first | refine wD1 ?_ | refine wD2 ?_ | refine wE1 ?_ | refine wE2 ?_ | (refine wE3 ?_; intro _) | (refine wE4 ?_; intro _) | refine wN ?_ | ((with_reducible show evIs _ (_ :: _) _ _); first | refine wQ ?_ | refine wF ?_ | refine wG ?_ | refine wT ?_ | refine wM ?_ | refine wS ?_ | refine wP ?_ | refine wJ ?_ | refine wX ?_ | refine wY ?_))
    clear hF
    repeat refine evDone ?_
    try (show AW _ _ _ _ _)
    repeat refine AW.seq ?_
    refine AW.condF (by simp [hq3_, hq4_]) (by simp [hq3_, hq4_]) ?_
    refine AW.skip ?_
    show AW _ _ _ _ _
    repeat refine AW.seq ?_
    refine AW.reg ?_
    have hF := And.intro (hlX_) (hw)
    repeat (first | refine wD1 ?_ | refine wD2 ?_ | refine wE1 ?_ | refine wE2 ?_ | (refine wE3 ?_; intro _) | (refine wE4 ?_; intro _) | refine wN ?_ | ((with_reducible show evIs _ (_ :: _) _ _); first | refine wQ ?_ | refine wF ?_ | refine wG ?_ | refine wT ?_ | refine wM ?_ | refine wS ?_ | refine wP ?_ | refine wJ ?_ | refine wX ?_ | refine wY ?_))
    clear hF
    repeat refine evDone ?_
    try (show AW _ _ _ _ _)
    repeat refine AW.seq ?_
    refine AW.draw ?_
    have hF := And.intro (hlX_) (And.intro (hlY_) (And.intro (htX_) (And.intro (htY_) (And.intro (heX_) (And.intro (heY_) (And.intro (eq_true hcX_) (And.intro (eq_true hcY_) (And.intro (hp1_) (And.intro (hp2_) (And.intro (hp3_) (And.intro (hp4_) (And.intro (hp5_) (And.intro (hp6_) (And.intro (hp7_) (hp8_)))))))))))))))
    repeat (first | refine wD1 ?_ | refine wD2 ?_ | refine wE1 ?_ | refine wE2 ?_ | (refine wE3 ?_; intro _) | (refine wE4 ?_; intro _) | refine wN ?_ | ((with_reducible show evIs _ (_ :: _) _ _); first | refine wQ ?_ | refine wF ?_ | refine wG ?_ | refine wT ?_ | refine wM ?_ | refine wS ?_ | refine wP ?_ | refine wJ ?_ | refine wX ?_ | refine wY ?_))
    clear hF
    repeat refine evDone ?_
    try (show AW _ _ _ _ _)
    have hF := True.intro
    refine wC (hA := h16) ?_
    clear hF
    have hF := And.intro (hlX_) (And.intro (hlY_) (And.intro (htX_) (And.intro (htY_) (And.intro (heX_) (And.intro (heY_) (And.intro (eq_true hcX_) (And.intro (eq_true hcY_) (And.intro (hp1_) (And.intro (hp2_) (And.intro (hp3_) (And.intro (hp4_) (And.intro (hp5_) (And.intro (hp6_) (And.intro (hp7_) (hp8_)))))))))))))))
    repeat (first | refine wD1 ?_ | refine wD2 ?_ | refine wE1 ?_ | refine wE2 ?_ | (refine wE3 ?_; intro _) | (refine wE4 ?_; intro _) | refine wN ?_ | ((with_reducible show evIs _ (_ :: _) _ _); first | refine wQ ?_ | refine wF ?_ | refine wG ?_ | refine wT ?_ | refine wM ?_ | refine wS ?_ | refine wP ?_ | refine wJ ?_ | refine wX ?_ | refine wY ?_))
    clear hF
    repeat refine evDone ?_
    try (show AW _ _ _ _ _)
    have hF := True.intro
    refine wC (hA := h12) ?_
    clear hF
    have hF := True.intro
    repeat (first | refine wD1 ?_ | refine wD2 ?_ | refine wE1 ?_ | refine wE2 ?_ | (refine wE3 ?_; intro _) | (refine wE4 ?_; intro _) | refine wN ?_ | ((with_reducible show evIs _ (_ :: _) _ _); first | refine wQ ?_ | refine wF ?_ | refine wG ?_ | refine wT ?_ | refine wM ?_ | refine wS ?_ | refine wP ?_ | refine wJ ?_ | refine wX ?_ | refine wY ?_))
    clear hF
    repeat refine evDone ?_
    try (show AW _ _ _ _ _)
    refine AW.ret (retI rfl ?_)
    simp [a5_res, resOk, resP, resV, ARes.op, R2s, R2, R1s, R1, closeOk, closeV]
  · cases ub
    · have hF := And.intro (hlX_) (And.intro (hlY_) (And.intro (hq1_) (And.intro (hq2_) (And.intro (hq3_) (And.intro (hq4_) (And.intro (hn0) (And.intro (hnl) (hu0))))))))
      repeat (first | refine wD1 ?_ | refine wD2 ?_ | refine wE1 ?_ | refine wE2 ?_ | refine wE6 ?_ | refine wE7 ?_ | refine wE5 ?_ | refine wN ?_ | ((with_reducible show evIs _ (_ :: _) _ _); first | refine wQ ?_ | refine wF ?_ | refine wG ?_ | refine wT ?_ | refine wM ?_ | refine wS ?_ | refine wP ?_ | refine wJ ?_ | refine wX ?_ | refine wY ?_))
      clear hF
      repeat refine evDone ?_
      try (show AW _ _ _ _ _)
      repeat refine AW.seq ?_
      refine AW.condF (by simp [hu0]) (by simp [hu0]) ?_
      refine AW.skip ?_
      show AW _ _ _ _ _
      repeat refine AW.seq ?_
      refine AW.reg ?_
      have hF := And.intro (hlX_) (And.intro (hq3_) (hq4_))
      repeat (first | refine wD1 ?_ | refine wD2 ?_ | refine wE1 ?_ | refine wE2 ?_ | (refine wE3 ?_; intro _) | (refine wE4 ?_; intro _) | refine wN ?_ | ((with_reducible show evIs _ (_ :: _) _ _); first | refine wQ ?_ | refine wF ?_ | refine wG ?_ | refine wT ?_ | refine wM ?_ | refine wS ?_ | refine wP ?_ | refine wJ ?_ | refine wX ?_ | refine wY ?_))
      clear hF
      repeat refine evDone ?_
      try (show AW _ _ _ _ _)
      repeat refine AW.seq ?_
      refine AW.condF (by simp [hq3_, hq4_]) (by simp [hq3_, hq4_]) ?_
      refine AW.skip ?_
      show AW _ _ _ _ _
      repeat refine AW.seq ?_
      refine AW.reg ?_
      have hF := And.intro (hlX_) (hw)
      repeat (first | refine wD1 ?_ | refine wD2 ?_ | refine wE1 ?_ | refine wE2 ?_ | (refine wE3 ?_; intro _) | (refine wE4 ?_; intro _) | refine wN ?_ | ((with_reducible show evIs _ (_ :: _) _ _); first | refine wQ ?_ | refine wF ?_ | refine wG ?_ | refine wT ?_ | refine wM ?_ | refine wS ?_ | refine wP ?_ | refine wJ ?_ | refine wX ?_ | refine wY ?_))
      clear hF
      repeat refine evDone ?_
      try (show AW _ _ _ _ _)
      repeat refine AW.seq ?_
      refine AW.draw ?_
      have hF := And.intro (hlX_) (And.intro (hlY_) (And.intro (htX_) (And.intro (htY_) (And.intro (heX_) (And.intro (heY_) (And.intro (eq_true hcX_) (And.intro (eq_true hcY_) (And.intro (hp1_) (And.intro (hp2_) (And.intro (hp3_) (And.intro (hp4_) (And.intro (hp5_) (And.intro (hp6_) (And.intro (hp7_) (hp8_)))))))))))))))
      repeat (first | refine wD1 ?_ | refine wD2 ?_ | refine wE1 ?_ | refine wE2 ?_ | (refine wE3 ?_; intro _) | (refine wE4 ?_; intro _) | refine wN ?_ | ((with_reducible show evIs _ (_ :: _) _ _); first | refine wQ ?_ | refine wF ?_ | refine wG ?_ | refine wT ?_ | refine wM ?_ | refine wS ?_ | refine wP ?_ | refine wJ ?_ | refine wX ?_ | refine wY ?_))
      clear hF
      repeat refine evDone ?_
      try (show AW _ _ _ _ _)
      have hF := True.intro
      refine wC (hA := h16) ?_
      clear hF
      have hF := And.intro (hlX_) (And.intro (hlY_) (And.intro (htX_) (And.intro (htY_) (And.intro (heX_) (And.intro (heY_) (And.intro (eq_true hcX_) (And.intro (eq_true hcY_) (And.intro (hp1_) (And.intro (hp2_) (And.intro (hp3_) (And.intro (hp4_) (And.intro (hp5_) (And.intro (hp6_) (And.intro (hp7_) (hp8_)))))))))))))))
      repeat (first | refine wD1 ?_ | refine wD2 ?_ | refine wE1 ?_ | refine wE2 ?_ | (refine wE3 ?_; intro _) | (refine wE4 ?_; intro _) | refine wN ?_ | ((with_reducible show evIs _ (_ :: _) _ _); first | refine wQ ?_ | refine wF ?_ | refine wG ?_ | refine wT ?_ | refine wM ?_ | refine wS ?_ | refine wP ?_ | refine wJ ?_ | refine wX ?_ | refine wY ?_))
      clear hF
      repeat refine evDone ?_
      try (show AW _ _ _ _ _)
      have hF := True.intro
      refine wC (hA := h12) ?_
      clear hF
      have hF := True.intro
      repeat (first | refine wD1 ?_ | refine wD2 ?_ | refine wE1 ?_ | refine wE2 ?_ | (refine wE3 ?_; intro _) | (refine wE4 ?_; intro _) | refine wN ?_ | ((with_reducible show evIs _ (_ :: _) _ _); first | refine wQ ?_ | refine wF ?_ | refine wG ?_ | refine wT ?_ | refine wM ?_ | refine wS ?_ | refine wP ?_ | refine wJ ?_ | refine wX ?_ | refine wY ?_))
      clear hF
      repeat refine evDone ?_
      try (show AW _ _ _ _ _)
      refine AW.ret (retI rfl ?_)
      simp [a5_res, resOk, resP, resV, ARes.op, R2s, R2, R1s, R1, closeOk, closeV]
    · have hF := And.intro (hlX_) (And.intro (hlY_) (And.intro (hq1_) (And.intro (hq2_) (And.intro (hq3_) (And.intro (hq4_) (And.intro (hn0) (And.intro (hnl) (hu0))))))))
      repeat (first | refine wD1 ?_ | refine wD2 ?_ | refine wE1 ?_ | refine wE2 ?_ | refine wE6 ?_ | refine wE7 ?_ | refine wE5 ?_ | refine wN ?_ | ((with_reducible show evIs _ (_ :: _) _ _); first | refine wQ ?_ | refine wF ?_ | refine wG ?_ | refine wT ?_ | refine wM ?_ | refine wS ?_ | refine wP ?_ | refine wJ ?_ | refine wX ?_ | refine wY ?_))
      clear hF
      repeat refine evDone ?_
      try (show AW _ _ _ _ _)
      repeat refine AW.seq ?_
      refine AW.condF (by simp [hu0]) (by simp [hu0]) ?_
      refine AW.skip ?_
      show AW _ _ _ _ _
      repeat refine AW.seq ?_
      refine AW.reg ?_
      have hF := And.intro (hlX_) (And.intro (hq3_) (hq4_))
      repeat (first | refine wD1 ?_ | refine wD2 ?_ | refine wE1 ?_ | refine wE2 ?_ | (refine wE3 ?_; intro _) | (refine wE4 ?_; intro _) | refine wN ?_ | ((with_reducible show evIs _ (_ :: _) _ _); first | refine wQ ?_ | refine wF ?_ | refine wG ?_ | refine wT ?_ | refine wM ?_ | refine wS ?_ | refine wP ?_ | refine wJ ?_ | refine wX ?_ | refine wY ?_))
      clear hF
      repeat refine evDone ?_
      try (show AW _ _ _ _ _)
      repeat refine AW.seq ?_
      refine AW.condF (by simp [hq3_, hq4_]) (by simp [hq3_, hq4_]) ?_
      refine AW.skip ?_
      show AW _ _ _ _ _
      repeat refine AW.seq ?_
      refine AW.reg ?_
      have hF := And.intro (hlX_) (hw)
      repeat (first | refine wD1 ?_ | refine wD2 ?_ | refine wE1 ?_ | refine wE2 ?_ | (refine wE3 ?_; intro _) | (refine wE4 ?_; intro _) | refine wN ?_ | ((with_reducible show evIs _ (_ :: _) _ _); first | refine wQ ?_ | refine wF ?_ | refine wG ?_ | refine wT ?_ | refine wM ?_ | refine wS ?_ | refine wP ?_ | refine wJ ?_ | refine wX ?_ | refine wY ?_))
      clear hF
      repeat refine evDone ?_
      try (show AW _ _ _ _ _)
      repeat refine AW.seq ?_
      refine AW.draw ?_
      have hF := And.intro (hlX_) (And.intro (hlY_) (And.intro (htX_) (And.intro (htY_) (And.intro (heX_) (And.intro (heY_) (And.intro (eq_true hcX_) (And.intro (eq_true hcY_) (And.intro (hp1_) (And.intro (hp2_) (And.intro (hp3_) (And.intro (hp4_) (And.intro (hp5_) (And.intro (hp6_) (And.intro (hp7_) (hp8_)))))))))))))))
      repeat (first | refine wD1 ?_ | refine wD2 ?_ | refine wE1 ?_ | refine wE2 ?_ | (refine wE3 ?_; intro _) | (refine wE4 ?_; intro _) | refine wN ?_ | ((with_reducible show evIs _ (_ :: _) _ _); first | refine wQ ?_ | refine wF ?_ | refine wG ?_ | refine wT ?_ | refine wM ?_ | refine wS ?_ | refine wP ?_ | refine wJ ?_ | refine wX ?_ | refine wY ?_))
      clear hF
      repeat refine evDone ?_
      try (show AW _ _ _ _ _)
      have hF := True.intro
      refine wC (hA := h16) ?_
      clear hF
      have hF := And.intro (hlX_) (And.intro (hlY_) (And.intro (htX_) (And.intro (htY_) (And.intro (heX_) (And.intro (heY_) (And.intro (eq_true hcX_) (And.intro (eq_true hcY_) (And.intro (hp1_) (And.intro (hp2_) (And.intro (hp3_) (And.intro (hp4_) (And.intro (hp5_) (And.intro (hp6_) (And.intro (hp7_) (hp8_)))))))))))))))
      repeat (first | refine wD1 ?_ | refine wD2 ?_ | refine wE1 ?_ | refine wE2 ?_ | (refine wE3 ?_; intro _) | (refine wE4 ?_; intro _) | refine wN ?_ | ((with_reducible show evIs _ (_ :: _) _ _); first | refine wQ ?_ | refine wF ?_ | refine wG ?_ | refine wT ?_ | refine wM ?_ | refine wS ?_ | refine wP ?_ | refine wJ ?_ | refine wX ?_ | refine wY ?_))
      clear hF
      repeat refine evDone ?_
      try (show AW _ _ _ _ _)
      have hF := True.intro
      refine wC (hA := h12) ?_
      clear hF
      have hF := True.intro
      repeat (first | refine wD1 ?_ | refine wD2 ?_ | refine wE1 ?_ | refine wE2 ?_ | (refine wE3 ?_; intro _) | (refine wE4 ?_; intro _) | refine wN ?_ | ((with_reducible show evIs _ (_ :: _) _ _); first | refine wQ ?_ | refine wF ?_ | refine wG ?_ | refine wT ?_ | refine wM ?_ | refine wS ?_ | refine wP ?_ | refine wJ ?_ | refine wX ?_ | refine wY ?_))
      clear hF
      repeat refine evDone ?_
      try (show AW _ _ _ _ _)
      refine AW.ret (retI rfl ?_)
      simp [a5_res, resOk, resP, resV, ARes.op, R2s, R2, R1s, R1, closeOk, closeV]
theorem ao_clC (ls : List Frame) : (ls.map Frame.ao).map clC = ls.map Frame.av := by simp [Function.comp_def]
theorem f5 (ls : List Frame) (v0 : Val) (hok : ∀ f ∈ ls, f.ok) (hb : ls.length * 88 ≤ 140737488355328) (hv0 : v0.okv) : ACall Try.prog 5 [.sl .fro (ls.map Frame.av), v0.av] (· = .bool true) := by
  have hk0 : 0 ≤ ls.length := by omega
  have h10 := f10 ls hok hb
  have h11 := f11 [v0] (okvs_of fun x hx => by simp at hx; subst hx; exact hv0) (by simp)
  have h12 := f12
  have h13 := fun h : oks ls => fun hl => f13 ls v0 h hl hv0
  have hkp := fun h : oks ls => throwF_keeps (szF ls + 1) ls v0 h hv0
  have hover := throwF_over ls (szF ls + 1) ls v0 (over_refl ls)
  obtain ⟨a, b, c, d, e⟩ := v0
  simp only [avs, Val.av] at h11 h13 ⊢
  refine a5_of (by simp) ?_
  repeat refine AW.seq ?_
  refine AW.reg ?_
  have hF := True.intro
  repeat (first | refine wD1 ?_ | refine wD2 ?_ | refine wE1 ?_ | refine wE2 ?_ | (refine wE3 ?_; intro _) | (refine wE4 ?_; intro _) | refine wN ?_ | ((with_reducible show evIs _ (_ :: _) _ _); first | refine wQ ?_ | refine wF ?_ | refine wG ?_ | refine wT ?_ | refine wM ?_ | refine wS ?_ | refine wP ?_ | refine wJ ?_ | refine wX ?_ | refine wY ?_))
  clear hF
  repeat refine evDone ?_
  try (show AW _ _ _ _ _)
  repeat refine AW.seq ?_
  refine AW.reg ?_
  have hF := True.intro
  repeat (first | refine wD1 ?_ | refine wD2 ?_ | refine wE1 ?_ | refine wE2 ?_ | (refine wE3 ?_; intro _) | (refine wE4 ?_; intro _) | refine wN ?_ | ((with_reducible show evIs _ (_ :: _) _ _); first | refine wQ ?_ | refine wF ?_ | refine wG ?_ | refine wT ?_ | refine wM ?_ | refine wS ?_ | refine wP ?_ | refine wJ ?_ | refine wX ?_ | refine wY ?_))
  clear hF
  repeat refine evDone ?_
  try (show AW _ _ _ _ _)
  have hF := True.intro
  refine wB (hA := h10) ?_
  clear hF
  intro b1 hb1
  cases b1
  · have hlim := (hb1 rfl).1
    have hoks : oks ls := fun f hf => ⟨hok f hf, (hb1 rfl).2 f hf⟩
    have hF := True.intro
    repeat (first | refine wD1 ?_ | refine wD2 ?_ | refine wE1 ?_ | refine wE2 ?_ | (refine wE3 ?_; intro _) | (refine wE4 ?_; intro _) | refine wN ?_ | ((with_reducible show evIs _ (_ :: _) _ _); first | refine wQ ?_ | refine wF ?_ | refine wG ?_ | refine wT ?_ | refine wM ?_ | refine wS ?_ | refine wP ?_ | refine wJ ?_ | refine wX ?_ | refine wY ?_))
    clear hF
    repeat refine evDone ?_
    try (show AW _ _ _ _ _)
    have hF := True.intro
    refine wB (hA := h11) ?_
    clear hF
    intro b2 _
    cases b2
    · have hF := True.intro
      repeat (first | refine wD1 ?_ | refine wD2 ?_ | refine wE1 ?_ | refine wE2 ?_ | (refine wE3 ?_; intro _) | (refine wE4 ?_; intro _) | refine wN ?_ | ((with_reducible show evIs _ (_ :: _) _ _); first | refine wQ ?_ | refine wF ?_ | refine wG ?_ | refine wT ?_ | refine wM ?_ | refine wS ?_ | refine wP ?_ | refine wJ ?_ | refine wX ?_ | refine wY ?_))
      clear hF
      repeat refine evDone ?_
      try (show AW _ _ _ _ _)
      repeat refine AW.seq ?_
      refine AW.condF (by simp []) (by simp []) ?_
      refine AW.skip ?_
      show AW _ _ _ _ _
      have h13 := h13 hoks hlim
      obtain ⟨k1, k2, k3⟩ := hkp hoks
      generalize throwF (szF ls + 1) ls (Val.mk a b c d e) = T at *
      obtain ⟨fs, ⟨u1, u2⟩, ok⟩ := T
      dsimp only at k1 k2 k3
      simp only [resT, Undo.av] at h13
      have hu2c := clC_avs u2
      have h20' : ok = true → ACall Try.prog 20 [.sl .fro (fs.map Frame.av)] (· = .bool (undoing fs)) := fun _ => f20 fs (by omega) (fun f hf => by have := (k1 f hf).2; omega)
      repeat refine AW.seq ?_
      refine AW.reg ?_
      have hF := True.intro
      repeat (first | refine wD1 ?_ | refine wD2 ?_ | refine wE1 ?_ | refine wE2 ?_ | (refine wE3 ?_; intro _) | (refine wE4 ?_; intro _) | refine wN ?_ | ((with_reducible show evIs _ (_ :: _) _ _); first | refine wQ ?_ | refine wF ?_ | refine wG ?_ | refine wT ?_ | refine wM ?_ | refine wS ?_ | refine wP ?_ | refine wJ ?_ | refine wX ?_ | refine wY ?_))
      clear hF
      repeat refine evDone ?_
      try (show AW _ _ _ _ _)
      repeat refine AW.seq ?_
      refine AW.block ?_
      refine AW.loop (fun g : Nat × Nat => g.1 ≤ ls.length ∧ 10 ≤ g.2) (fun g => mkS [(0, .sl .fro (ls.map Frame.av)), (3, .ptr 0 0 0), (23, .sl .fro (ls.map Frame.av)), (24, .int .i64 ls.length), (25, .int .i64 g.1)] [(0, ⟨5, true, [.agg [.int .i64 a, .int .i64 b, .str c, .sl .fro (avs d), .sl .fro (e.map .str)]]⟩)] g.2) (fun g => ls.length - g.1) (0, 50) ⟨by simp, by simp⟩ ?_ ?_
      · refine Fit.mk _ _ _ (by simp [hk0, conv2, newEmp, convs_refl, convs, conv]) (by simp [hk0, heapFit, newEmp, conv2s, conv2, convs_refl, convs, conv]) (by intro q hq; first | (simp at hq; done) | (simp at hq; omega) | (simp at hq; simp; omega))
      · rintro ⟨i0, n⟩ ⟨hi0, hn⟩
        dsimp only at hi0 hn ⊢
        have hnl : ∀ k, (n + k < n) = False := fun k => eq_false (by omega)
        have hn0 : ∀ k, (0 = n + k) = False := fun k => eq_false (by omega)
        have hnp : ∀ k, 0 < n + k := fun k => by omega
        repeat refine AW.seq ?_
        refine AW.reg ?_
        by_cases hlti0 : i0 < ls.length
        · have hF := hlti0
          repeat (first | refine wD1 ?_ | refine wD2 ?_ | refine wE1 ?_ | refine wE2 ?_ | (refine wE3 ?_; intro _) | (refine wE4 ?_; intro _) | refine wN ?_ | ((with_reducible show evIs _ (_ :: _) _ _); first | refine wQ ?_ | refine wF ?_ | refine wG ?_ | refine wT ?_ | refine wM ?_ | refine wS ?_ | refine wP ?_ | refine wJ ?_ | refine wX ?_ | refine wY ?_))
          clear hF
          repeat refine evDone ?_
          try (show AW _ _ _ _ _)
          repeat refine AW.seq ?_
          refine AW.condT (by simp []) (by simp []) ?_
          refine AW.skip ?_
          show AW _ _ _ _ _
          refine AW.seq (AW.block ?_)
          obtain ⟨x, hx⟩ : ∃ x, ls[i0]? = some x := ⟨_, List.getElem?_eq_getElem hlti0⟩
          have he := elem_map (f := Frame.av) hx
          have hxo := hok x (List.mem_of_getElem? hx)
          obtain ⟨fn, pc, slots, stack, marks⟩ := x
          obtain ⟨hs1, hs2, hs3, hs4, hm1, hm2⟩ := hxo
          dsimp only at hs1 hs2 hs3 hs4 hm1 hm2
          simp only [Frame.av] at he
          repeat refine AW.seq ?_
          refine AW.reg ?_
          have hF := And.intro (hlti0) (And.intro (he) (And.intro (hnl) (hn0)))
          repeat (first | refine wD1 ?_ | refine wD2 ?_ | refine wE1 ?_ | refine wE2 ?_ | (refine wE3 ?_; intro _) | (refine wE4 ?_; intro _) | refine wN ?_ | ((with_reducible show evIs _ (_ :: _) _ _); first | refine wQ ?_ | refine wF ?_ | refine wG ?_ | refine wT ?_ | refine wM ?_ | refine wS ?_ | refine wP ?_ | refine wJ ?_ | refine wX ?_ | refine wY ?_))
          clear hF
          repeat refine evDone ?_
          try (show AW _ _ _ _ _)
          repeat refine AW.seq ?_
          refine AW.reg ?_
          have hF := And.intro (hnl) (hn0)
          repeat (first | refine wD1 ?_ | refine wD2 ?_ | refine wE1 ?_ | refine wE2 ?_ | (refine wE3 ?_; intro _) | (refine wE4 ?_; intro _) | refine wN ?_ | ((with_reducible show evIs _ (_ :: _) _ _); first | refine wQ ?_ | refine wF ?_ | refine wG ?_ | refine wT ?_ | refine wM ?_ | refine wS ?_ | refine wP ?_ | refine wJ ?_ | refine wX ?_ | refine wY ?_))
          clear hF
          repeat refine evDone ?_
          try (show AW _ _ _ _ _)
          repeat refine AW.seq ?_
          refine AW.block ?_
          refine AW.loop (fun g : Nat × Nat => g.1 ≤ marks.length ∧ 10 ≤ g.2) (fun g => mkS [(0, .sl .fro (ls.map Frame.av)), (3, .ptr 0 0 0), (23, .sl .fro (ls.map Frame.av)), (24, .int .i64 ls.length), (25, .int .i64 i0), (30, .sl .fro (marks.map Mark.av)), (31, .int .i64 marks.length), (32, .int .i64 g.1)] [(0, ⟨5, true, [.agg [.int .i64 a, .int .i64 b, .str c, .sl .fro (avs d), .sl .fro (e.map .str)]]⟩)] g.2) (fun g => marks.length - g.1) (0, n + 100) ⟨by simp, by simp⟩ ?_ ?_
          · refine Fit.mk _ _ _ (by simp [hk0, hnp, conv2, newEmp, convs_refl, convs, conv]) (by simp [hk0, hnp, heapFit, newEmp, conv2s, conv2, convs_refl, convs, conv]) (by intro q hq; first | (simp at hq; done) | (simp at hq; omega) | (simp at hq; simp; omega))
          · rintro ⟨i1, n⟩ ⟨hi1, hn⟩
            dsimp only at hi1 hn ⊢
            have hnl : ∀ k, (n + k < n) = False := fun k => eq_false (by omega)
            have hn0 : ∀ k, (0 = n + k) = False := fun k => eq_false (by omega)
            have hnp : ∀ k, 0 < n + k := fun k => by omega
            repeat refine AW.seq ?_
            refine AW.reg ?_
            by_cases hlti1 : i1 < marks.length
            · have hF := hlti1
              repeat (first | refine wD1 ?_ | refine wD2 ?_ | refine wE1 ?_ | refine wE2 ?_ | (refine wE3 ?_; intro _) | (refine wE4 ?_; intro _) | refine wN ?_ | ((with_reducible show evIs _ (_ :: _) _ _); first | refine wQ ?_ | refine wF ?_ | refine wG ?_ | refine wT ?_ | refine wM ?_ | refine wS ?_ | refine wP ?_ | refine wJ ?_ | refine wX ?_ | refine wY ?_))
              clear hF
              repeat refine evDone ?_
              try (show AW _ _ _ _ _)
              repeat refine AW.seq ?_
              refine AW.condT (by simp []) (by simp []) ?_
              refine AW.skip ?_
              show AW _ _ _ _ _
              refine AW.seq (AW.block ?_)
              obtain ⟨x, hx⟩ : ∃ x, marks[i1]? = some x := ⟨_, List.getElem?_eq_getElem hlti1⟩
              have he := elem_map (f := Mark.av) hx
              have hxo := hm2 x (List.mem_of_getElem? hx)
              obtain ⟨kind, target, slot, height, us, tk, tn, tt, ti, ts⟩ := x
              obtain ⟨hu1, hu2, hu3⟩ := hxo
              dsimp only at hu1 hu2 hu3
              simp only [Mark.av] at he
              repeat refine AW.seq ?_
              refine AW.reg ?_
              have hF := And.intro (hlti1) (And.intro (he) (And.intro (hnl) (hn0)))
              repeat (first | refine wD1 ?_ | refine wD2 ?_ | refine wE1 ?_ | refine wE2 ?_ | (refine wE3 ?_; intro _) | (refine wE4 ?_; intro _) | refine wN ?_ | ((with_reducible show evIs _ (_ :: _) _ _); first | refine wQ ?_ | refine wF ?_ | refine wG ?_ | refine wT ?_ | refine wM ?_ | refine wS ?_ | refine wP ?_ | refine wJ ?_ | refine wX ?_ | refine wY ?_))
              clear hF
              repeat refine evDone ?_
              try (show AW _ _ _ _ _)
              repeat refine AW.seq ?_
              refine AW.reg ?_
              have hF := And.intro (hnl) (hn0)
              repeat (first | refine wD1 ?_ | refine wD2 ?_ | refine wE1 ?_ | refine wE2 ?_ | (refine wE3 ?_; intro _) | (refine wE4 ?_; intro _) | refine wN ?_ | ((with_reducible show evIs _ (_ :: _) _ _); first | refine wQ ?_ | refine wF ?_ | refine wG ?_ | refine wT ?_ | refine wM ?_ | refine wS ?_ | refine wP ?_ | refine wJ ?_ | refine wX ?_ | refine wY ?_))
              clear hF
              repeat refine evDone ?_
              try (show AW _ _ _ _ _)
              repeat refine AW.seq ?_
              refine AW.block ?_
              refine AW.loop (fun g : Nat × Nat => g.1 ≤ us.length ∧ 10 ≤ g.2) (fun g => mkS [(0, .sl .fro (ls.map Frame.av)), (3, .ptr 0 0 0), (23, .sl .fro (ls.map Frame.av)), (24, .int .i64 ls.length), (25, .int .i64 i0), (30, .sl .fro (marks.map Mark.av)), (31, .int .i64 marks.length), (32, .int .i64 i1), (37, .sl .fro (us.map Undo.av)), (38, .int .i64 us.length), (39, .int .i64 g.1)] [(0, ⟨5, true, [.agg [.int .i64 a, .int .i64 b, .str c, .sl .fro (avs d), .sl .fro (e.map .str)]]⟩)] g.2) (fun g => us.length - g.1) (0, n + 100) ⟨by simp, by simp⟩ ?_ ?_
              · refine Fit.mk _ _ _ (by simp [hk0, hnp, conv2, newEmp, convs_refl, convs, conv]) (by simp [hk0, hnp, heapFit, newEmp, conv2s, conv2, convs_refl, convs, conv]) (by intro q hq; first | (simp at hq; done) | (simp at hq; omega) | (simp at hq; simp; omega))
              · rintro ⟨i, n⟩ ⟨hi, hn⟩
                dsimp only at hi hn ⊢
                have hnl : ∀ k, (n + k < n) = False := fun k => eq_false (by omega)
                have hn0 : ∀ k, (0 = n + k) = False := fun k => eq_false (by omega)
                have hnp : ∀ k, 0 < n + k := fun k => by omega
                repeat refine AW.seq ?_
                refine AW.reg ?_
                by_cases hlt : i < us.length
                · have hF := hlt
                  repeat (first | refine wD1 ?_ | refine wD2 ?_ | refine wE1 ?_ | refine wE2 ?_ | (refine wE3 ?_; intro _) | (refine wE4 ?_; intro _) | refine wN ?_ | ((with_reducible show evIs _ (_ :: _) _ _); first | refine wQ ?_ | refine wF ?_ | refine wG ?_ | refine wT ?_ | refine wM ?_ | refine wS ?_ | refine wP ?_ | refine wJ ?_ | refine wX ?_ | refine wY ?_))
                  clear hF
                  repeat refine evDone ?_
                  try (show AW _ _ _ _ _)
                  repeat refine AW.seq ?_
                  refine AW.condT (by simp []) (by simp []) ?_
                  refine AW.skip ?_
                  show AW _ _ _ _ _
                  refine AW.seq (AW.block ?_)
                  obtain ⟨u, hu⟩ : ∃ x, us[i]? = some x := ⟨_, List.getElem?_eq_getElem hlt⟩
                  have he := elem_map (f := Undo.av) hu
                  obtain ⟨fn, args⟩ := u
                  simp only [Undo.av] at he
                  repeat refine AW.seq ?_
                  refine AW.reg ?_
                  have hF := And.intro (hlt) (And.intro (he) (And.intro (hnl) (hn0)))
                  repeat (first | refine wD1 ?_ | refine wD2 ?_ | refine wE1 ?_ | refine wE2 ?_ | (refine wE3 ?_; intro _) | (refine wE4 ?_; intro _) | refine wN ?_ | ((with_reducible show evIs _ (_ :: _) _ _); first | refine wQ ?_ | refine wF ?_ | refine wG ?_ | refine wT ?_ | refine wM ?_ | refine wS ?_ | refine wP ?_ | refine wJ ?_ | refine wX ?_ | refine wY ?_))
                  clear hF
                  repeat refine evDone ?_
                  try (show AW _ _ _ _ _)
                  repeat refine AW.seq ?_
                  refine AW.reg ?_
                  by_cases h20 : fn < 0
                  · have hF := And.intro (h20) (And.intro (hnl) (hn0))
                    repeat (first | refine wD1 ?_ | refine wD2 ?_ | refine wE1 ?_ | refine wE2 ?_ | (refine wE3 ?_; intro _) | (refine wE4 ?_; intro _) | refine wN ?_ | ((with_reducible show evIs _ (_ :: _) _ _); first | refine wQ ?_ | refine wF ?_ | refine wG ?_ | refine wT ?_ | refine wM ?_ | refine wS ?_ | refine wP ?_ | refine wJ ?_ | refine wX ?_ | refine wY ?_))
                    clear hF
                    repeat refine evDone ?_
                    try (show AW _ _ _ _ _)
                    repeat refine AW.seq ?_
                    refine AW.condT (by simp [h20]) (by simp [h20]) ?_
                    repeat refine AW.seq ?_
                    refine AW.reg ?_
                    have hF := True.intro
                    repeat (first | refine wD1 ?_ | refine wD2 ?_ | refine wE1 ?_ | refine wE2 ?_ | (refine wE3 ?_; intro _) | (refine wE4 ?_; intro _) | refine wN ?_ | ((with_reducible show evIs _ (_ :: _) _ _); first | refine wQ ?_ | refine wF ?_ | refine wG ?_ | refine wT ?_ | refine wM ?_ | refine wS ?_ | refine wP ?_ | refine wJ ?_ | refine wX ?_ | refine wY ?_))
                    clear hF
                    repeat refine evDone ?_
                    try (show AW _ _ _ _ _)
                    have hF := True.intro
                    refine wC (hA := h12) ?_
                    clear hF
                    have hF := True.intro
                    repeat (first | refine wD1 ?_ | refine wD2 ?_ | refine wE1 ?_ | refine wE2 ?_ | (refine wE3 ?_; intro _) | (refine wE4 ?_; intro _) | refine wN ?_ | ((with_reducible show evIs _ (_ :: _) _ _); first | refine wQ ?_ | refine wF ?_ | refine wG ?_ | refine wT ?_ | refine wM ?_ | refine wS ?_ | refine wP ?_ | refine wJ ?_ | refine wX ?_ | refine wY ?_))
                    clear hF
                    repeat refine evDone ?_
                    try (show AW _ _ _ _ _)
                    refine AW.ret (retI rfl ?_)
                    simp [a5_res, resOk, resP, resV, ARes.op, R2s, R2, R1s, R1, closeOk, closeV]
                  · have hF := And.intro (h20) (And.intro (hnl) (hn0))
                    repeat (first | refine wD1 ?_ | refine wD2 ?_ | refine wE1 ?_ | refine wE2 ?_ | (refine wE3 ?_; intro _) | (refine wE4 ?_; intro _) | refine wN ?_ | ((with_reducible show evIs _ (_ :: _) _ _); first | refine wQ ?_ | refine wF ?_ | refine wG ?_ | refine wT ?_ | refine wM ?_ | refine wS ?_ | refine wP ?_ | refine wJ ?_ | refine wX ?_ | refine wY ?_))
                    clear hF
                    repeat refine evDone ?_
                    try (show AW _ _ _ _ _)
                    repeat refine AW.seq ?_
                    refine AW.condF (by simp [h20]) (by simp [h20]) ?_
                    refine AW.skip ?_
                    show AW _ _ _ _ _
                    refine AW.reg ?_
                    have hw : IntKind.i64.wrap ((i : Int) + 1) = (i : Int) + 1 := i64_in _ ⟨by omega, by omega⟩
                    have hF := hw
                    repeat (first | refine wD1 ?_ | refine wD2 ?_ | refine wE1 ?_ | refine wE2 ?_ | (refine wE3 ?_; intro _) | (refine wE4 ?_; intro _) | refine wN ?_ | ((with_reducible show evIs _ (_ :: _) _ _); first | refine wQ ?_ | refine wF ?_ | refine wG ?_ | refine wT ?_ | refine wM ?_ | refine wS ?_ | refine wP ?_ | refine wJ ?_ | refine wX ?_ | refine wY ?_))
                    clear hF
                    repeat refine evDone ?_
                    try (show AW _ _ _ _ _)
                    refine ⟨(i + 1, n + 100), ⟨by dsimp only; omega, by dsimp only; omega⟩, by dsimp only; omega, ?_⟩
                    refine Fit.mk _ _ _ (by simp [hw, hn0, hnp, conv2, newEmp, convs_refl, convs, conv]) (by simp [hw, hn0, hnp, heapFit, newEmp, conv2s, conv2, convs_refl, convs, conv]) (by intro q hq; first | (simp at hq; done) | (simp at hq; omega) | (simp at hq; simp; omega))
                · have hlt2 : ¬ (i : Int) < us.length := by omega
                  have hF := And.intro (hlt) (hlt2)
                  repeat (first | refine wD1 ?_ | refine wD2 ?_ | refine wE1 ?_ | refine wE2 ?_ | (refine wE3 ?_; intro _) | (refine wE4 ?_; intro _) | refine wN ?_ | ((with_reducible show evIs _ (_ :: _) _ _); first | refine wQ ?_ | refine wF ?_ | refine wG ?_ | refine wT ?_ | refine wM ?_ | refine wS ?_ | refine wP ?_ | refine wJ ?_ | refine wX ?_ | refine wY ?_))
                  clear hF
                  repeat refine evDone ?_
                  try (show AW _ _ _ _ _)
                  repeat refine AW.seq ?_
                  refine AW.condF (by simp []) (by simp []) ?_
                  refine AW.exit ?_
                  show AW _ _ _ _ _
                  refine AW.reg ?_
                  have hw : IntKind.i64.wrap ((i1 : Int) + 1) = (i1 : Int) + 1 := i64_in _ ⟨by omega, by omega⟩
                  have hF := hw
                  repeat (first | refine wD1 ?_ | refine wD2 ?_ | refine wE1 ?_ | refine wE2 ?_ | (refine wE3 ?_; intro _) | (refine wE4 ?_; intro _) | refine wN ?_ | ((with_reducible show evIs _ (_ :: _) _ _); first | refine wQ ?_ | refine wF ?_ | refine wG ?_ | refine wT ?_ | refine wM ?_ | refine wS ?_ | refine wP ?_ | refine wJ ?_ | refine wX ?_ | refine wY ?_))
                  clear hF
                  repeat refine evDone ?_
                  try (show AW _ _ _ _ _)
                  refine ⟨(i1 + 1, n + 100), ⟨by dsimp only; omega, by dsimp only; omega⟩, by dsimp only; omega, ?_⟩
                  refine Fit.mk _ _ _ (by simp [hw, hn0, hnp, conv2, newEmp, convs_refl, convs, conv]) (by simp [hw, hn0, hnp, heapFit, newEmp, conv2s, conv2, convs_refl, convs, conv]) (by intro q hq; first | (simp at hq; done) | (simp at hq; omega) | (simp at hq; simp; omega))
            · have hlt2 : ¬ (i1 : Int) < marks.length := by omega
              have hF := And.intro (hlti1) (hlt2)
              repeat (first | refine wD1 ?_ | refine wD2 ?_ | refine wE1 ?_ | refine wE2 ?_ | (refine wE3 ?_; intro _) | (refine wE4 ?_; intro _) | refine wN ?_ | ((with_reducible show evIs _ (_ :: _) _ _); first | refine wQ ?_ | refine wF ?_ | refine wG ?_ | refine wT ?_ | refine wM ?_ | refine wS ?_ | refine wP ?_ | refine wJ ?_ | refine wX ?_ | refine wY ?_))
              clear hF
              repeat refine evDone ?_
              try (show AW _ _ _ _ _)
              repeat refine AW.seq ?_
              refine AW.condF (by simp []) (by simp []) ?_
              refine AW.exit ?_
              show AW _ _ _ _ _
              refine AW.reg ?_
              have hw : IntKind.i64.wrap ((i0 : Int) + 1) = (i0 : Int) + 1 := i64_in _ ⟨by omega, by omega⟩
              have hF := hw
              repeat (first | refine wD1 ?_ | refine wD2 ?_ | refine wE1 ?_ | refine wE2 ?_ | (refine wE3 ?_; intro _) | (refine wE4 ?_; intro _) | refine wN ?_ | ((with_reducible show evIs _ (_ :: _) _ _); first | refine wQ ?_ | refine wF ?_ | refine wG ?_ | refine wT ?_ | refine wM ?_ | refine wS ?_ | refine wP ?_ | refine wJ ?_ | refine wX ?_ | refine wY ?_))
              clear hF
              repeat refine evDone ?_
              try (show AW _ _ _ _ _)
              refine ⟨(i0 + 1, n + 100), ⟨by dsimp only; omega, by dsimp only; omega⟩, by dsimp only; omega, ?_⟩
              refine Fit.mk _ _ _ (by simp [hw, hn0, hnp, conv2, newEmp, convs_refl, convs, conv]) (by simp [hw, hn0, hnp, heapFit, newEmp, conv2s, conv2, convs_refl, convs, conv]) (by intro q hq; first | (simp at hq; done) | (simp at hq; omega) | (simp at hq; simp; omega))
        · have hlt2 : ¬ (i0 : Int) < ls.length := by omega
          have hF := And.intro (hlti0) (hlt2)
          repeat (first | refine wD1 ?_ | refine wD2 ?_ | refine wE1 ?_ | refine wE2 ?_ | (refine wE3 ?_; intro _) | (refine wE4 ?_; intro _) | refine wN ?_ | ((with_reducible show evIs _ (_ :: _) _ _); first | refine wQ ?_ | refine wF ?_ | refine wG ?_ | refine wT ?_ | refine wM ?_ | refine wS ?_ | refine wP ?_ | refine wJ ?_ | refine wX ?_ | refine wY ?_))
          clear hF
          repeat refine evDone ?_
          try (show AW _ _ _ _ _)
          repeat refine AW.seq ?_
          refine AW.condF (by simp []) (by simp []) ?_
          refine AW.exit ?_
          show AW _ _ _ _ _
          refine AW.fit (st' := (mkS [(0, .sl .fro (ls.map Frame.av)), (3, .ptr 0 0 0)] [(0, ⟨5, true, [.agg [.int .i64 a, .int .i64 b, .str c, .sl .fro (avs d), .sl .fro (e.map .str)]]⟩)] n)) ?_ ?_
          · have hnz : 0 < n := by omega
            refine Fit.mk _ _ _ (by simp [hnz, conv2, newEmp, convs_refl, convs, conv]) (by simp [hnz, heapFit, newEmp, conv2s, conv2, convs_refl, convs, conv]) (by intro q hq; first | (simp at hq; done) | (simp at hq; omega) | (simp at hq; simp; omega))
          cases ok
          · obtain ⟨rfl, hu⟩ := hover
            obtain ⟨rfl, rfl⟩ : u1 = -1 ∧ u2 = [] := by injection hu with a b; exact ⟨a, b⟩
            simp only [Bool.false_eq_true, if_false, avs] at h13
            exact below_none h12 a b c d e n hn _ h13
          · obtain ⟨⟨A, ⟨g1, g2, g3, g4, g5⟩, ⟨o1, o2, o3, o4, o5⟩, rest, rfl, rfl, hfn, hmk⟩, hun⟩ := hover
            dsimp only at hfn hmk hun
            subst hfn
            simp only [if_true] at h13
            have h20 := h20' rfl
            have h16 := f16 A (fun f hf => hok f (by simp [hf])) (by simp at hlim; omega)
            refine below_some h12 a b c d e n hn _ _ _ _ (g5.map Mark.av) (o5.map Mark.av) A.length rest.length u1 u2 _ g1 g2 o2 g3 g4 o3 o4 (by simp at hlim; omega) h13 (ao_clC _) hu2c h20 h16 hun (by simp) (by simp) (by simp) (by simp) (by simp [elemAt, Frame.av]) (by simp [elemAt, Frame.av]) ?_ ?_ (by simp; omega)
            · intro x hx; obtain ⟨y, _, rfl⟩ := List.mem_map.1 hx; simp
            · intro x hx; obtain ⟨y, _, rfl⟩ := List.mem_map.1 hx; simp
    · have hF := True.intro
      repeat (first | refine wD1 ?_ | refine wD2 ?_ | refine wE1 ?_ | refine wE2 ?_ | (refine wE3 ?_; intro _) | (refine wE4 ?_; intro _) | refine wN ?_ | ((with_reducible show evIs _ (_ :: _) _ _); first | refine wQ ?_ | refine wF ?_ | refine wG ?_ | refine wT ?_ | refine wM ?_ | refine wS ?_ | refine wP ?_ | refine wJ ?_ | refine wX ?_ | refine wY ?_))
      clear hF
      repeat refine evDone ?_
      try (show AW _ _ _ _ _)
      repeat refine AW.seq ?_
      refine AW.condT (by simp []) (by simp []) ?_
      repeat refine AW.seq ?_
      refine AW.reg ?_
      have hF := True.intro
      repeat (first | refine wD1 ?_ | refine wD2 ?_ | refine wE1 ?_ | refine wE2 ?_ | (refine wE3 ?_; intro _) | (refine wE4 ?_; intro _) | refine wN ?_ | ((with_reducible show evIs _ (_ :: _) _ _); first | refine wQ ?_ | refine wF ?_ | refine wG ?_ | refine wT ?_ | refine wM ?_ | refine wS ?_ | refine wP ?_ | refine wJ ?_ | refine wX ?_ | refine wY ?_))
      clear hF
      repeat refine evDone ?_
      try (show AW _ _ _ _ _)
      have hF := True.intro
      refine wC (hA := h12) ?_
      clear hF
      have hF := True.intro
      repeat (first | refine wD1 ?_ | refine wD2 ?_ | refine wE1 ?_ | refine wE2 ?_ | (refine wE3 ?_; intro _) | (refine wE4 ?_; intro _) | refine wN ?_ | ((with_reducible show evIs _ (_ :: _) _ _); first | refine wQ ?_ | refine wF ?_ | refine wG ?_ | refine wT ?_ | refine wM ?_ | refine wS ?_ | refine wP ?_ | refine wJ ?_ | refine wX ?_ | refine wY ?_))
      clear hF
      repeat refine evDone ?_
      try (show AW _ _ _ _ _)
      refine AW.ret (retI rfl ?_)
      simp [a5_res, resOk, resP, resV, ARes.op, R2s, R2, R1s, R1, closeOk, closeV]
  · have hF := True.intro
    repeat (first | refine wD1 ?_ | refine wD2 ?_ | refine wE1 ?_ | refine wE2 ?_ | (refine wE3 ?_; intro _) | (refine wE4 ?_; intro _) | refine wN ?_ | ((with_reducible show evIs _ (_ :: _) _ _); first | refine wQ ?_ | refine wF ?_ | refine wG ?_ | refine wT ?_ | refine wM ?_ | refine wS ?_ | refine wP ?_ | refine wJ ?_ | refine wX ?_ | refine wY ?_))
    clear hF
    repeat refine evDone ?_
    try (show AW _ _ _ _ _)
    repeat refine AW.seq ?_
    refine AW.condT (by simp []) (by simp []) ?_
    repeat refine AW.seq ?_
    refine AW.reg ?_
    have hF := True.intro
    repeat (first | refine wD1 ?_ | refine wD2 ?_ | refine wE1 ?_ | refine wE2 ?_ | (refine wE3 ?_; intro _) | (refine wE4 ?_; intro _) | refine wN ?_ | ((with_reducible show evIs _ (_ :: _) _ _); first | refine wQ ?_ | refine wF ?_ | refine wG ?_ | refine wT ?_ | refine wM ?_ | refine wS ?_ | refine wP ?_ | refine wJ ?_ | refine wX ?_ | refine wY ?_))
    clear hF
    repeat refine evDone ?_
    try (show AW _ _ _ _ _)
    have hF := True.intro
    refine wC (hA := h12) ?_
    clear hF
    have hF := True.intro
    repeat (first | refine wD1 ?_ | refine wD2 ?_ | refine wE1 ?_ | refine wE2 ?_ | (refine wE3 ?_; intro _) | (refine wE4 ?_; intro _) | refine wN ?_ | ((with_reducible show evIs _ (_ :: _) _ _); first | refine wQ ?_ | refine wF ?_ | refine wG ?_ | refine wT ?_ | refine wM ?_ | refine wS ?_ | refine wP ?_ | refine wJ ?_ | refine wX ?_ | refine wY ?_))
    clear hF
    repeat refine evDone ?_
    try (show AW _ _ _ _ _)
    refine AW.ret (retI rfl ?_)
    simp [a5_res, resOk, resP, resV, ARes.op, R2s, R2, R1s, R1, closeOk, closeV]
end Go.Proofs.Ytafkaofaioleiaa
