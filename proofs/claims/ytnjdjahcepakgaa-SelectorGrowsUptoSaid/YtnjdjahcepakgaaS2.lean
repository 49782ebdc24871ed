/- Contracts of chapter 17's functions, seventh part: coroutines are copied. -/
import Derived.Test.YtnjdjahcepakgaaS1
import Derived.Test.YtnjdjahcepakgaaA2

set_option linter.unusedSimpArgs false
set_option linter.unusedVariables false
set_option maxHeartbeats 4000000
namespace Go.Proofs.Ytnjdjahcepakgaa
open Go Go.Amb Go.IntWalk

/-- A row that is rewritten by and by. -/
def midM {α : Type} (f g : α → AV) (xs : List α) (i : Nat) : List AV := (xs.take i).map f ++ (xs.drop i).map g
section
variable {α : Type} {f g : α → AV}
theorem midM_len (xs : List α) (i : Nat) : (midM f g xs i).length = xs.length := by
  simp [midM]; omega
theorem midM_at {xs : List α} {i : Nat} {v : α} (h : xs[i]? = some v) : elemAt (midM f g xs i) i = g v := by
  obtain ⟨hi, rfl⟩ := List.getElem?_eq_some_iff.1 h
  have hl : ((xs.take i).map f).length = i := by simp; omega
  have hd : xs.drop i = xs[i] :: xs.drop (i + 1) := List.drop_eq_getElem_cons hi
  unfold elemAt midM
  rw [List.getD_eq_getElem?_getD, List.getElem?_append_right (by omega), hl, Nat.sub_self, hd]
  rfl
theorem midM_set {xs : List α} {i : Nat} {v : α} (h : xs[i]? = some v) : (midM f g xs i).set i (f v) = midM f g xs (i + 1) := by
  obtain ⟨hi, rfl⟩ := List.getElem?_eq_some_iff.1 h
  apply List.ext_getElem?
  intro j
  simp only [midM, List.getElem?_set, List.getElem?_append, List.length_map, List.length_take, List.length_append, List.length_drop, List.getElem?_map, List.getElem?_take, List.getElem?_drop]
  by_cases h1 : i = j
  · subst h1
    simp [show i < min (i + 1) xs.length by omega, show i < min i xs.length + (xs.length - i) by omega, List.getElem?_eq_getElem hi]
  · by_cases h2 : j < i
    · simp [h1, show j < min i xs.length by omega, show j < min (i + 1) xs.length by omega, h2, show j < i + 1 by omega]
    · simp only [h1, if_false, show ¬ j < min i xs.length by omega, show ¬ j < min (i + 1) xs.length by omega]
      congr 2
      omega
theorem midM_full (xs : List α) : midM f g xs xs.length = xs.map f := by simp [midM]
theorem midM_zero (xs : List α) : midM f g xs 0 = xs.map g := by simp [midM]
theorem set_same {xs : List α} {i : Nat} {v : α} (h : xs[i]? = some v) : (xs.map g).set i (g v) = xs.map g := by
  obtain ⟨hi, rfl⟩ := List.getElem?_eq_some_iff.1 h
  rw [← List.map_set, List.set_getElem_self]
end

def Mark.am (m : Mark) : AV := .agg ([.int .i64 m.kind, .int .i64 m.target, .int .i64 m.slot, .int .i64 m.height, .sl (.own 2) (m.undos.map (Undo.av false))] ++ m.thrown.cells false)
def Frame.am (f : Frame) : AV := .agg [.int .i64 f.fn, .int .i64 f.pc, .sl .fro (avs false f.slots), .sl .fro (avs false f.stack), .sl (.own 10) (f.marks.map Mark.am)]
def Coro.am (c : Coro) : AV := .agg [.int .i64 c.state, .sl (.own 5) (c.frames.map Frame.am), .int .i64 c.future, .sl (.own 1) (c.waits.map (AV.int .i64)), .bool c.select, .str c.key]
def Undo.ok (u : Undo) : Prop := okvs u.args ∧ u.args.length * 80 ≤ 140737488355328
def Mark.ok (m : Mark) : Prop := m.undos.length * 32 ≤ 140737488355328 ∧ (∀ u ∈ m.undos, u.ok) ∧ m.thrown.okv
def Frame.ok (f : Frame) : Prop := f.marks.length * 136 ≤ 140737488355328 ∧ (∀ m ∈ f.marks, m.ok) ∧ okvs f.slots ∧ f.slots.length * 80 ≤ 140737488355328 ∧ okvs f.stack ∧ f.stack.length * 80 ≤ 140737488355328
def Coro.ok (c : Coro) : Prop := c.frames.length * 88 ≤ 140737488355328 ∧ c.waits.length * 8 ≤ 140737488355328 ∧ ∀ f ∈ c.frames, f.ok

def c29 (c : Coro) : List AV := [.int .i64 c.state, .hdr 7 0 c.frames.length, .int .i64 c.future, .hdr 4 0 c.waits.length, .bool c.select, .str c.key]
def z29 : List AV := [.int .i64 0, .sl .ext [], .int .i64 0, .sl .ext [], .bool false, .str ⟨#[]⟩]

theorem f39_one (vk vn : Int) (vt : ByteArray) (vi : List Val) (vs : List ByteArray) (h : (Val.mk vk vn vt vi vs).okv) : ACall Try.prog 39 [.sl .fro [.agg [.int .i64 vk, .int .i64 vn, .str vt, .sl .fro (avs false vi), .sl .fro (vs.map .str)]]]
    (· = .sl (.own 5) [.agg [.int .i64 vk, .int .i64 vn, .str vt, .sl (.own 5) (avs true vi), .sl (.own 1) (vs.map .str)]]) := by
  simpa [avs, Val.av] using f39 [⟨vk, vn, vt, vi, vs⟩] ⟨h, trivial⟩ (by simp)
@[simp] theorem clC_avs (o : Bool) (vs : List Val) : (avs o vs).map clC = avs false vs := by
  simp [avs_map, Function.comp_def, clC_av]
@[simp] theorem clC_str (vs : List ByteArray) : (vs.map AV.str).map clC = vs.map AV.str := by
  simp [Function.comp_def]
@[simp] theorem clC_comp_str : clC ∘ AV.str = AV.str := rfl
@[simp] theorem clC_comp_av (o : Bool) : clC ∘ Val.av o = Val.av false := funext (clC_av o)
theorem f29_undos (c : Coro) (f : Frame) (i j n m : Nat) (us : List Undo) (kd tg sl ht vk vn : Int) (vt : ByteArray) (vi : List Val) (vs : List ByteArray) (hk1 : us.length * 32 ≤ 140737488355328) (hk2 : ∀ u ∈ us, u.ok) (hn : 7 < n) (hm : n + 40 ≤ m) {Q : AE → St → Prop}
    (hQ : Q .normal (mkS [(1, .ptr 0 0 0), (2, .ptr 1 0 0), (17, .hdr 7 0 c.frames.length), (18, .int .i64 c.frames.length), (19, .int .i64 i), (3, .int .i64 i), (4, .ptr (n + 20) 0 0), (37, .hdr (n + 31) 0 f.marks.length), (38, .int .i64 f.marks.length), (39, .int .i64 j), (5, .int .i64 j), (6, .ptr (m + 46) 0 0), (50, .int .i64 us.length), (51, .int .i64 us.length)]
      [(0, ⟨6, true, [.agg (c29 c)]⟩), (1, ⟨6, true, [.agg z29]⟩), (4, ⟨1, false, c.waits.map (AV.int .i64)⟩), (7, ⟨5, false, midM Frame.am (Frame.av false) c.frames i⟩), (n + 20, ⟨5, true, [.agg [.int .i64 f.fn, .int .i64 f.pc, .sl .fro (avs false f.slots), .sl .fro (avs false f.stack), .hdr (n + 31) 0 f.marks.length]]⟩), (n + 31, ⟨10, false, midM Mark.am (Mark.av false) f.marks j⟩), (m + 46, ⟨10, true, [.agg [.int .i64 kd, .int .i64 tg, .int .i64 sl, .int .i64 ht, .hdr (m + 51) 0 us.length, .int .i64 vk, .int .i64 vn, .str vt, .sl .fro (avs false vi), .sl .fro (vs.map .str)]]⟩), (m + 51, ⟨2, false, us.map (Undo.av false)⟩)] (m + 60))) :
    AW Try.prog 87 (.block 4 (.loop a29_l0)) (mkS [(1, .ptr 0 0 0), (2, .ptr 1 0 0), (17, .hdr 7 0 c.frames.length), (18, .int .i64 c.frames.length), (19, .int .i64 i), (3, .int .i64 i), (4, .ptr (n + 20) 0 0), (37, .hdr (n + 31) 0 f.marks.length), (38, .int .i64 f.marks.length), (39, .int .i64 j), (5, .int .i64 j), (6, .ptr (m + 46) 0 0), (50, .int .i64 us.length), (51, .int .i64 0)]
      [(0, ⟨6, true, [.agg (c29 c)]⟩), (1, ⟨6, true, [.agg z29]⟩), (4, ⟨1, false, c.waits.map (AV.int .i64)⟩), (7, ⟨5, false, midM Frame.am (Frame.av false) c.frames i⟩), (n + 20, ⟨5, true, [.agg [.int .i64 f.fn, .int .i64 f.pc, .sl .fro (avs false f.slots), .sl .fro (avs false f.stack), .hdr (n + 31) 0 f.marks.length]]⟩), (n + 31, ⟨10, false, midM Mark.am (Mark.av false) f.marks j⟩), (m + 46, ⟨10, true, [.agg [.int .i64 kd, .int .i64 tg, .int .i64 sl, .int .i64 ht, .hdr (m + 51) 0 us.length, .int .i64 vk, .int .i64 vn, .str vt, .sl .fro (avs false vi), .sl .fro (vs.map .str)]]⟩), (m + 51, ⟨2, false, us.map (Undo.av false)⟩)] (m + 60)) Q := by
  have hne : ∀ k, (m + k = n) = False := fun k => eq_false (by omega)
  have hne' : ∀ k, (n = m + k) = False := fun k => eq_false (by omega)
  have hnl : ∀ k, (m + k < m) = False := fun k => eq_false (by omega)
  have hlt' : ∀ k, n < m + k := fun k => by omega
  refine AW.out ?_
  refine AW.block ?_
  refine AW.loop (fun k : Nat => k ≤ us.length) (fun k => mkS [(1, .ptr 0 0 0), (2, .ptr 1 0 0), (17, .hdr 7 0 c.frames.length), (18, .int .i64 c.frames.length), (19, .int .i64 i), (3, .int .i64 i), (4, .ptr (n + 20) 0 0), (37, .hdr (n + 31) 0 f.marks.length), (38, .int .i64 f.marks.length), (39, .int .i64 j), (5, .int .i64 j), (6, .ptr (m + 46) 0 0), (50, .int .i64 us.length), (51, .int .i64 k)]
      [(0, ⟨6, true, [.agg (c29 c)]⟩), (1, ⟨6, true, [.agg z29]⟩), (4, ⟨1, false, c.waits.map (AV.int .i64)⟩), (7, ⟨5, false, midM Frame.am (Frame.av false) c.frames i⟩), (n + 20, ⟨5, true, [.agg [.int .i64 f.fn, .int .i64 f.pc, .sl .fro (avs false f.slots), .sl .fro (avs false f.stack), .hdr (n + 31) 0 f.marks.length]]⟩), (n + 31, ⟨10, false, midM Mark.am (Mark.av false) f.marks j⟩), (m + 46, ⟨10, true, [.agg [.int .i64 kd, .int .i64 tg, .int .i64 sl, .int .i64 ht, .hdr (m + 51) 0 us.length, .int .i64 vk, .int .i64 vn, .str vt, .sl .fro (avs false vi), .sl .fro (vs.map .str)]]⟩), (m + 51, ⟨2, false, us.map (Undo.av false)⟩)] (m + 60)) (fun k => us.length - k) 0 (by omega) ?_ ?_
  · exact Fit.refl _
  · intro k hk
    repeat refine AW.seq ?_
    refine AW.reg ?_
    by_cases hlt : k < us.length
    · obtain ⟨u, hu⟩ : ∃ u, us[k]? = some u := ⟨_, List.getElem?_eq_getElem hlt⟩
      have hum : u ∈ us := List.mem_of_getElem? hu
      have hue : elemAt (us.map (Undo.av false)) k = .agg [.int .i64 u.fn, .sl .fro (avs false u.args)] := by simp [elemAt, hu, Undo.av]
      have hus := set_same (g := Undo.av false) hu
      simp only [Undo.av, ko_false] at hus
      have hus' : (us.map (Undo.av false)).set k (.agg [.int .i64 u.fn, .sl .fro (avs false u.args)]) = us.map (Undo.av false) := set_same (g := Undo.av false) hu
      have hF := hlt
      repeat (first | refine wD1 ?_ | refine wD2 ?_ | refine wE1 ?_ | refine wE2 ?_ | refine wN ?_ | ((with_reducible show evIs _ (_ :: _) _ _); first | refine wQ ?_ | refine wF ?_ | refine wG ?_ | refine wT ?_ | refine wM ?_ | refine wS ?_ | refine wP ?_))
      clear hF
      repeat refine evDone ?_
      try (show AW _ _ _ _ _)
      repeat refine AW.seq ?_
      refine AW.condT (by simp []) (by simp []) ?_
      refine AW.skip ?_
      show AW _ _ _ _ _
      refine AW.seq (AW.block ?_)
      repeat refine AW.seq ?_
      refine AW.reg ?_
      have hF := hlt
      repeat (first | refine wD1 ?_ | refine wD2 ?_ | refine wE1 ?_ | refine wE2 ?_ | refine wN ?_ | ((with_reducible show evIs _ (_ :: _) _ _); first | refine wQ ?_ | refine wF ?_ | refine wG ?_ | refine wT ?_ | refine wM ?_ | refine wS ?_ | refine wP ?_))
      clear hF
      repeat refine evDone ?_
      try (show AW _ _ _ _ _)
      repeat refine AW.seq ?_
      refine AW.draw ?_
      have hF := And.intro (hlt) (And.intro (hne) (And.intro (hne') (And.intro (hnl) (hue))))
      repeat (first | refine wD1 ?_ | refine wD2 ?_ | refine wE1 ?_ | refine wE2 ?_ | refine wN ?_ | ((with_reducible show evIs _ (_ :: _) _ _); first | refine wQ ?_ | refine wF ?_ | refine wG ?_ | refine wT ?_ | refine wM ?_ | refine wS ?_ | refine wP ?_))
      clear hF
      repeat refine evDone ?_
      try (show AW _ _ _ _ _)
      have hF := True.intro
      refine wC (hA := f39 u.args (hk2 u hum).1 (hk2 u hum).2) ?_
      clear hF
      have hF := And.intro (hlt) (And.intro (hne) (And.intro (hne') (And.intro (hnl) (And.intro (hue) (hus')))))
      repeat (first | refine wD1 ?_ | refine wD2 ?_ | refine wE1 ?_ | refine wE2 ?_ | refine wN ?_ | ((with_reducible show evIs _ (_ :: _) _ _); first | refine wQ ?_ | refine wF ?_ | refine wG ?_ | refine wT ?_ | refine wM ?_ | refine wS ?_ | refine wP ?_))
      clear hF
      repeat refine evDone ?_
      try (show AW _ _ _ _ _)
      refine AW.reg ?_
      have hw : IntKind.i64.wrap ((k : Int) + 1) = (k : Int) + 1 := i64_in _ ⟨by omega, by omega⟩
      have hF := hw
      repeat (first | refine wD1 ?_ | refine wD2 ?_ | refine wE1 ?_ | refine wE2 ?_ | refine wN ?_ | ((with_reducible show evIs _ (_ :: _) _ _); first | refine wQ ?_ | refine wF ?_ | refine wG ?_ | refine wT ?_ | refine wM ?_ | refine wS ?_ | refine wP ?_))
      clear hF
      repeat refine evDone ?_
      try (show AW _ _ _ _ _)
      refine ⟨k + 1, by omega, by omega, ?_⟩
      refine Fit.mk _ _ _ (by simp [hw, hne, hne', hlt', hus', conv2, conv]) (by simp [hw, hne, hne', hlt', hus', heapFit, newEmp, conv2s, conv2, convs_refl, convs, conv]) ?_
      intro r hr
      simp at hr
      try simp
      omega
    · have hlt2 : ¬ (k : Int) < us.length := by omega
      have hF := And.intro (hlt) (hlt2)
      repeat (first | refine wD1 ?_ | refine wD2 ?_ | refine wE1 ?_ | refine wE2 ?_ | refine wN ?_ | ((with_reducible show evIs _ (_ :: _) _ _); first | refine wQ ?_ | refine wF ?_ | refine wG ?_ | refine wT ?_ | refine wM ?_ | refine wS ?_ | refine wP ?_))
      clear hF
      repeat refine evDone ?_
      try (show AW _ _ _ _ _)
      repeat refine AW.seq ?_
      refine AW.condF (by simp []) (by simp []) ?_
      have hkk : k = us.length := by omega
      subst hkk
      refine AW.exit ?_
      refine ⟨_, ?_, hQ⟩
      refine Fit.mk _ _ _ (by simp [hne, hne', hlt', conv2, conv]) (by simp [hne, hne', hlt', heapFit, newEmp, conv2s, conv2, convs_refl, convs, conv]) ?_
      intro r hr
      simp at hr
      try simp
      omega
end Go.Proofs.Ytnjdjahcepakgaa

set_option linter.unusedSimpArgs false
set_option linter.unusedVariables false
set_option maxHeartbeats 4000000
namespace Go.Proofs.Ytnjdjahcepakgaa
open Go Go.Amb Go.IntWalk

theorem f29_mark (c : Coro) (f : Frame) (i j n m : Nat) (mk : Mark) (hj : f.marks[j]? = some mk) (hok : mk.ok) (hn : 7 < n) (hm : n + 40 ≤ m) {Q : AE → St → Prop}
    (hQ : Q .normal (mkS [(1, .ptr 0 0 0), (2, .ptr 1 0 0), (17, .hdr 7 0 c.frames.length), (18, .int .i64 c.frames.length), (19, .int .i64 i), (3, .int .i64 i), (4, .ptr (n + 20) 0 0), (37, .hdr (n + 31) 0 f.marks.length), (38, .int .i64 f.marks.length), (39, .int .i64 j)]
      [(0, ⟨6, true, [.agg (c29 c)]⟩), (1, ⟨6, true, [.agg z29]⟩), (4, ⟨1, false, c.waits.map (AV.int .i64)⟩), (7, ⟨5, false, midM Frame.am (Frame.av false) c.frames i⟩), (n + 20, ⟨5, true, [.agg [.int .i64 f.fn, .int .i64 f.pc, .sl .fro (avs false f.slots), .sl .fro (avs false f.stack), .hdr (n + 31) 0 f.marks.length]]⟩), (n + 31, ⟨10, false, midM Mark.am (Mark.av false) f.marks (j + 1)⟩)] (m + 60))) :
    AW Try.prog 87 (.seq a29_r8 (.seq a29_r9 (.seq (.seq a29_r10 (.block 4 (.loop a29_l0))) (.seq a29_r15 a29_r16))))
      (mkS [(1, .ptr 0 0 0), (2, .ptr 1 0 0), (17, .hdr 7 0 c.frames.length), (18, .int .i64 c.frames.length), (19, .int .i64 i), (3, .int .i64 i), (4, .ptr (n + 20) 0 0), (37, .hdr (n + 31) 0 f.marks.length), (38, .int .i64 f.marks.length), (39, .int .i64 j)]
      [(0, ⟨6, true, [.agg (c29 c)]⟩), (1, ⟨6, true, [.agg z29]⟩), (4, ⟨1, false, c.waits.map (AV.int .i64)⟩), (7, ⟨5, false, midM Frame.am (Frame.av false) c.frames i⟩), (n + 20, ⟨5, true, [.agg [.int .i64 f.fn, .int .i64 f.pc, .sl .fro (avs false f.slots), .sl .fro (avs false f.stack), .hdr (n + 31) 0 f.marks.length]]⟩), (n + 31, ⟨10, false, midM Mark.am (Mark.av false) f.marks j⟩)] m) Q := by
  have hjl : j < f.marks.length := (List.getElem?_eq_some_iff.1 hj).1
  have he := midM_at (f := Mark.am) (g := Mark.av false) hj
  have hset := midM_set (f := Mark.am) (g := Mark.av false) hj
  have hml := midM_len (f := Mark.am) (g := Mark.av false) f.marks j
  obtain ⟨kd, tg, sl, ht, us, ⟨vk, vn, vt, vi, vs⟩⟩ := mk
  simp only [Mark.av, Mark.am, Val.cells, Val.av, cellsOf, ko_false, List.cons_append, List.nil_append] at he hset
  have hne : ∀ k, (m + k = n) = False := fun k => eq_false (by omega)
  have hne' : ∀ k, (n = m + k) = False := fun k => eq_false (by omega)
  have hnl : ∀ k, (m + k < m) = False := fun k => eq_false (by omega)
  have hlt' : ∀ k, n < m + k := fun k => by omega
  obtain ⟨hk1, hk2, hk3⟩ := hok
  simp only at hk1 hk2 hk3
  refine AW.out ?_
  repeat refine AW.seq ?_
  refine AW.reg ?_
  have hF := And.intro (hjl) (And.intro (he) (And.intro (hne) (And.intro (hne') (And.intro (hnl) (hml)))))
  repeat (first | refine wD1 ?_ | refine wD2 ?_ | refine wE1 ?_ | refine wE2 ?_ | refine wN ?_ | ((with_reducible show evIs _ (_ :: _) _ _); first | refine wQ ?_ | refine wF ?_ | refine wG ?_ | refine wT ?_ | refine wM ?_ | refine wS ?_ | refine wP ?_))
  clear hF
  repeat refine evDone ?_
  try (show AW _ _ _ _ _)
  repeat refine AW.seq ?_
  refine AW.reg ?_
  have hF := And.intro (hne) (And.intro (hne') (hnl))
  repeat (first | refine wD1 ?_ | refine wD2 ?_ | refine wE1 ?_ | refine wE2 ?_ | refine wN ?_ | ((with_reducible show evIs _ (_ :: _) _ _); first | refine wQ ?_ | refine wF ?_ | refine wG ?_ | refine wT ?_ | refine wM ?_ | refine wS ?_ | refine wP ?_))
  clear hF
  repeat refine evDone ?_
  try (show AW _ _ _ _ _)
  have hF := And.intro (hne) (And.intro (hne') (hnl))
  refine wA (hA := f41 (us.map (Undo.av false)) (by simp [Undo.av]) (by simpa using hk1) (by simp; omega)) ?_
  clear hF
  have hF := And.intro (hne) (And.intro (hne') (hnl))
  repeat (first | refine wD1 ?_ | refine wD2 ?_ | refine wE1 ?_ | refine wE2 ?_ | refine wN ?_ | ((with_reducible show evIs _ (_ :: _) _ _); first | refine wQ ?_ | refine wF ?_ | refine wG ?_ | refine wT ?_ | refine wM ?_ | refine wS ?_ | refine wP ?_))
  clear hF
  repeat refine evDone ?_
  try (show AW _ _ _ _ _)
  repeat refine AW.seq ?_
  refine AW.reg ?_
  have hF := And.intro (hne) (And.intro (hne') (hnl))
  repeat (first | refine wD1 ?_ | refine wD2 ?_ | refine wE1 ?_ | refine wE2 ?_ | refine wN ?_ | ((with_reducible show evIs _ (_ :: _) _ _); first | refine wQ ?_ | refine wF ?_ | refine wG ?_ | refine wT ?_ | refine wM ?_ | refine wS ?_ | refine wP ?_))
  clear hF
  repeat refine evDone ?_
  try (show AW _ _ _ _ _)
  repeat refine AW.seq ?_
  refine AW.fit (st' := mkS [(1, .ptr 0 0 0), (2, .ptr 1 0 0), (17, .hdr 7 0 c.frames.length), (18, .int .i64 c.frames.length), (19, .int .i64 i), (3, .int .i64 i), (4, .ptr (n + 20) 0 0), (37, .hdr (n + 31) 0 f.marks.length), (38, .int .i64 f.marks.length), (39, .int .i64 j), (5, .int .i64 j), (6, .ptr (m + 46) 0 0), (50, .int .i64 us.length), (51, .int .i64 0)]
      [(0, ⟨6, true, [.agg (c29 c)]⟩), (1, ⟨6, true, [.agg z29]⟩), (4, ⟨1, false, c.waits.map (AV.int .i64)⟩), (7, ⟨5, false, midM Frame.am (Frame.av false) c.frames i⟩), (n + 20, ⟨5, true, [.agg [.int .i64 f.fn, .int .i64 f.pc, .sl .fro (avs false f.slots), .sl .fro (avs false f.stack), .hdr (n + 31) 0 f.marks.length]]⟩), (n + 31, ⟨10, false, midM Mark.am (Mark.av false) f.marks j⟩), (m + 46, ⟨10, true, [.agg [.int .i64 kd, .int .i64 tg, .int .i64 sl, .int .i64 ht, .hdr (m + 51) 0 us.length, .int .i64 vk, .int .i64 vn, .str vt, .sl .fro (avs false vi), .sl .fro (vs.map .str)]]⟩), (m + 51, ⟨2, false, us.map (Undo.av false)⟩)] (m + 60)) ?_ ?_
  · refine Fit.mk _ _ _ (by simp [hne, hne', hlt', List.take_of_length_le, he, conv2, conv]) (by simp [hne, hne', hlt', List.take_of_length_le, he, heapFit, newEmp, conv2s, conv2, convs_refl, convs, conv]) ?_
    intro r hr
    simp at hr
    try simp
    omega
  refine f29_undos c f i j n m us kd tg sl ht vk vn vt vi vs hk1 hk2 hn hm ?_
  show AW _ _ _ _ _
  repeat refine AW.seq ?_
  refine AW.reg ?_
  have hF := And.intro (hne) (And.intro (hne') (hnl))
  repeat (first | refine wD1 ?_ | refine wD2 ?_ | refine wE1 ?_ | refine wE2 ?_ | refine wN ?_ | ((with_reducible show evIs _ (_ :: _) _ _); first | refine wQ ?_ | refine wF ?_ | refine wG ?_ | refine wT ?_ | refine wM ?_ | refine wS ?_ | refine wP ?_))
  clear hF
  repeat refine evDone ?_
  try (show AW _ _ _ _ _)
  have hF := True.intro
  refine wC (hA := f39_one vk vn vt vi vs hk3) ?_
  clear hF
  repeat (first
    | refine evD1 rfl rfl rfl ?_
    | refine evD2 rfl rfl rfl ?_
    | (refine evD1g rfl rfl rfl ?_ ?_; (focus (simp [hne, hne', hnl, avs, Val.av, elemAt, litA]; done)))
    | (refine evD2g rfl rfl rfl ?_ ?_; (focus (simp [hne, hne', hnl, avs, Val.av, elemAt, litA]; done)))
    | (refine evN ?_ ?_; (focus (first | exact trivial | (simp [hne, hne', hnl, avs, Val.av, elemAt, litA, wsOf, List.lookup, rechecks, recheck, ok1, val1]; done))))
    | (with_reducible show evIs _ (_ :: _) _ _
       first
        | (refine evQ rfl rfl rfl (by conv => lhs; (try simp [hne, hne', hnl, avs, Val.av, elemAt, litA])) ?_ ?_; (focus (simp [hne, hne', hnl, avs, Val.av, elemAt, litA]; done)))
        | (refine evF rfl rfl ?_ ?_ ?_; (focus (simp [hne, hne', hnl, avs, Val.av, elemAt, litA]; done)); (focus (simp [hne, hne', hnl, avs, Val.av, elemAt, litA]; done)))
        | (refine evG rfl rfl rfl (by conv => lhs; (try simp [hne, hne', hnl, avs, Val.av, elemAt, litA])) (by conv => lhs; (try simp [hne, hne', hnl, avs, Val.av, elemAt, litA])) ?_ ?_ ?_; (focus (simp [hne, hne', hnl, avs, Val.av, elemAt, litA]; done)); (focus (simp [hne, hne', hnl, avs, Val.av, elemAt, litA]; done)))
        | (refine evT1 rfl ?_ rfl ?_ ?_; (focus (simp [hne, hne', hnl, avs, Val.av, elemAt, litA]; done)); (focus (simp [hne, hne', hnl, avs, Val.av, elemAt, litA]; done)))
        | (refine evM rfl rfl rfl (by conv => lhs; (try simp)) (by conv => lhs; (try simp [hne, hne', hnl, avs, Val.av, elemAt, litA])) ?_ ?_; (focus (simp [hne, hne', hnl, avs, Val.av, elemAt, litA]; done)))
        | (refine evS rfl rfl rfl (by conv => lhs; (try simp [hne, hne', hnl, avs, Val.av, elemAt, litA])) (by conv => lhs; (try simp [hne, hne', hnl, avs, Val.av, elemAt, litA])) (by conv => lhs; (try simp [hne, hne', hnl, avs, Val.av, elemAt, litA, storeS, putAt, reCells, usedE])) ?_ ?_ ?_ ?_; (focus (simp [hne, hne', hnl, avs, Val.av, elemAt, litA]; done)); (focus (simp [hne, hne', hnl, avs, Val.av, elemAt, litA]; done)); (focus (simp [hne, hne', hnl, avs, Val.av, elemAt, litA, storeOk]; done)))
        | (refine evAp rfl rfl rfl (by conv => lhs; (try simp)) (by conv => lhs; (try simp [hne, hne', hnl, avs, Val.av, elemAt, litA])) (by conv => lhs; (try simp [hne, hne', hnl, avs, Val.av, elemAt, litA])) (by conv => lhs; (try simp [hne, hne', hnl, avs, Val.av, elemAt, litA, appS])) (by conv => lhs; (try simp [hne, hne', hnl, avs, Val.av, elemAt, litA])) ?_ ?_ ?_ ?_; (focus (simp [hne, hne', hnl, avs, Val.av, elemAt, litA]; done)); (focus (simp [hne, hne', hnl, avs, Val.av, elemAt, litA]; done)); (focus (simp [hne, hne', hnl, avs, Val.av, elemAt, litA, appOk]; done)))))
  repeat refine evDone ?_
  try (show AW _ _ _ _ _)
  repeat refine AW.seq ?_
  refine AW.reg ?_
  have ht1 : (us.map (Undo.av false)).take us.length = us.map (Undo.av false) := List.take_of_length_le (by simp)
  have hF := And.intro (hne) (And.intro (hne') (And.intro (hnl) (And.intro (he) (And.intro (hjl) (And.intro (hml) (And.intro (ht1) (hset)))))))
  repeat (first | refine wD1 ?_ | refine wD2 ?_ | refine wE1 ?_ | refine wE2 ?_ | refine wN ?_ | ((with_reducible show evIs _ (_ :: _) _ _); first | refine wQ ?_ | refine wF ?_ | refine wG ?_ | refine wT ?_ | refine wM ?_ | refine wS ?_ | refine wP ?_))
  clear hF
  repeat refine evDone ?_
  try (show AW _ _ _ _ _)
  refine ⟨_, ?_, hQ⟩
  refine Fit.mk _ _ _ (by simp [hne, hne', hlt', hset, ht1, conv2, conv]) (by simp [hne, hne', hlt', hset, ht1, heapFit, newEmp, conv2s, conv2, convs_refl, convs, conv]) ?_
  intro r hr
  simp at hr
  try simp
  omega
end Go.Proofs.Ytnjdjahcepakgaa

set_option linter.unusedSimpArgs false
set_option linter.unusedVariables false
set_option maxHeartbeats 4000000
namespace Go.Proofs.Ytnjdjahcepakgaa
open Go Go.Amb Go.IntWalk

@[simp] theorem cells_len (o : Bool) (v : Val) : (cellsOf (v.av o)).length = 5 := by
  cases v; simp [Val.av]
theorem f29_marks (c : Coro) (f : Frame) (i n m0 : Nat) (hok : f.ok) (hn : 7 < n) (hm0 : n + 40 ≤ m0) {Q : AE → St → Prop}
    (hQ : ∀ m, n + 40 ≤ m → Q .normal (mkS [(1, .ptr 0 0 0), (2, .ptr 1 0 0), (17, .hdr 7 0 c.frames.length), (18, .int .i64 c.frames.length), (19, .int .i64 i), (3, .int .i64 i), (4, .ptr (n + 20) 0 0), (37, .hdr (n + 31) 0 f.marks.length), (38, .int .i64 f.marks.length), (39, .int .i64 f.marks.length)]
      [(0, ⟨6, true, [.agg (c29 c)]⟩), (1, ⟨6, true, [.agg z29]⟩), (4, ⟨1, false, c.waits.map (AV.int .i64)⟩), (7, ⟨5, false, midM Frame.am (Frame.av false) c.frames i⟩), (n + 20, ⟨5, true, [.agg [.int .i64 f.fn, .int .i64 f.pc, .sl .fro (avs false f.slots), .sl .fro (avs false f.stack), .hdr (n + 31) 0 f.marks.length]]⟩), (n + 31, ⟨10, false, midM Mark.am (Mark.av false) f.marks f.marks.length⟩)] m)) :
    AW Try.prog 87 (.block 2 (.loop a29_l1)) (mkS [(1, .ptr 0 0 0), (2, .ptr 1 0 0), (17, .hdr 7 0 c.frames.length), (18, .int .i64 c.frames.length), (19, .int .i64 i), (3, .int .i64 i), (4, .ptr (n + 20) 0 0), (37, .hdr (n + 31) 0 f.marks.length), (38, .int .i64 f.marks.length), (39, .int .i64 0)]
      [(0, ⟨6, true, [.agg (c29 c)]⟩), (1, ⟨6, true, [.agg z29]⟩), (4, ⟨1, false, c.waits.map (AV.int .i64)⟩), (7, ⟨5, false, midM Frame.am (Frame.av false) c.frames i⟩), (n + 20, ⟨5, true, [.agg [.int .i64 f.fn, .int .i64 f.pc, .sl .fro (avs false f.slots), .sl .fro (avs false f.stack), .hdr (n + 31) 0 f.marks.length]]⟩), (n + 31, ⟨10, false, midM Mark.am (Mark.av false) f.marks 0⟩)] m0) Q := by
  refine AW.out ?_
  refine AW.block ?_
  refine AW.loop (fun g : Nat × Nat => g.1 ≤ f.marks.length ∧ n + 40 ≤ g.2) (fun g => mkS [(1, .ptr 0 0 0), (2, .ptr 1 0 0), (17, .hdr 7 0 c.frames.length), (18, .int .i64 c.frames.length), (19, .int .i64 i), (3, .int .i64 i), (4, .ptr (n + 20) 0 0), (37, .hdr (n + 31) 0 f.marks.length), (38, .int .i64 f.marks.length), (39, .int .i64 g.1)]
      [(0, ⟨6, true, [.agg (c29 c)]⟩), (1, ⟨6, true, [.agg z29]⟩), (4, ⟨1, false, c.waits.map (AV.int .i64)⟩), (7, ⟨5, false, midM Frame.am (Frame.av false) c.frames i⟩), (n + 20, ⟨5, true, [.agg [.int .i64 f.fn, .int .i64 f.pc, .sl .fro (avs false f.slots), .sl .fro (avs false f.stack), .hdr (n + 31) 0 f.marks.length]]⟩), (n + 31, ⟨10, false, midM Mark.am (Mark.av false) f.marks g.1⟩)] g.2) (fun g => f.marks.length - g.1) (0, m0) ⟨by simp, by simpa using hm0⟩ (Fit.refl _) ?_
  rintro ⟨j, m⟩ ⟨hj, hm⟩
  dsimp only at hj hm ⊢
  have hnl : ∀ k, (m + k < m) = False := fun k => eq_false (by omega)
  have hnm : ∀ k, n < m + k := fun k => by omega
  have h7m : ∀ k, 7 < m + k := fun k => by omega
  have h7 : 7 < m := by omega
  have h4 : 4 < m := by omega
  have h1 : 1 < m := by omega
  have h0 : 0 < m := by omega
  have hn1 : n + 20 < m := by omega
  have hn2 : n + 31 < m := by omega
  repeat refine AW.seq ?_
  refine AW.reg ?_
  by_cases hlt : j < f.marks.length
  · obtain ⟨mk, hmk⟩ : ∃ mk, f.marks[j]? = some mk := ⟨_, List.getElem?_eq_getElem hlt⟩
    have hmm : mk ∈ f.marks := List.mem_of_getElem? hmk
    have hF := hlt
    repeat (first | refine wD1 ?_ | refine wD2 ?_ | refine wE1 ?_ | refine wE2 ?_ | refine wN ?_ | ((with_reducible show evIs _ (_ :: _) _ _); first | refine wQ ?_ | refine wF ?_ | refine wG ?_ | refine wT ?_ | refine wM ?_ | refine wS ?_ | refine wP ?_))
    clear hF
    repeat refine evDone ?_
    try (show AW _ _ _ _ _)
    repeat refine AW.seq ?_
    refine AW.condT (by simp []) (by simp []) ?_
    refine AW.skip ?_
    show AW _ _ _ _ _
    refine AW.seq (AW.block ?_)
    refine AW.fit (st' := mkS [(1, .ptr 0 0 0), (2, .ptr 1 0 0), (17, .hdr 7 0 c.frames.length), (18, .int .i64 c.frames.length), (19, .int .i64 i), (3, .int .i64 i), (4, .ptr (n + 20) 0 0), (37, .hdr (n + 31) 0 f.marks.length), (38, .int .i64 f.marks.length), (39, .int .i64 j)]
      [(0, ⟨6, true, [.agg (c29 c)]⟩), (1, ⟨6, true, [.agg z29]⟩), (4, ⟨1, false, c.waits.map (AV.int .i64)⟩), (7, ⟨5, false, midM Frame.am (Frame.av false) c.frames i⟩), (n + 20, ⟨5, true, [.agg [.int .i64 f.fn, .int .i64 f.pc, .sl .fro (avs false f.slots), .sl .fro (avs false f.stack), .hdr (n + 31) 0 f.marks.length]]⟩), (n + 31, ⟨10, false, midM Mark.am (Mark.av false) f.marks j⟩)] m) ?_ ?_
    · refine Fit.mk _ _ _ (by simp [h7, h4, h1, h0, hn1, hn2, conv2, conv]) (by simp [h7, h4, h1, h0, hn1, hn2, heapFit, newEmp, conv2s, conv2, convs_refl, convs, conv]) ?_
      intro r hr
      simp at hr
      try simp
      omega
    refine f29_mark c f i j n m mk hmk (hok.2.1 mk hmm) hn hm ?_
    show AW _ _ _ _ _
    refine AW.reg ?_
    have hw : IntKind.i64.wrap ((j : Int) + 1) = (j : Int) + 1 := i64_in _ ⟨by omega, by have := hok.1; omega⟩
    have hF := hw
    repeat (first | refine wD1 ?_ | refine wD2 ?_ | refine wE1 ?_ | refine wE2 ?_ | refine wN ?_ | ((with_reducible show evIs _ (_ :: _) _ _); first | refine wQ ?_ | refine wF ?_ | refine wG ?_ | refine wT ?_ | refine wM ?_ | refine wS ?_ | refine wP ?_))
    clear hF
    repeat refine evDone ?_
    try (show AW _ _ _ _ _)
    refine ⟨(j + 1, m + 60), ⟨by dsimp only; omega, by dsimp only; omega⟩, by dsimp only; omega, ?_⟩
    refine Fit.mk _ _ _ (by simp [hw, hnm, h7m, conv2, conv]) (by simp [hw, hnm, h7m, heapFit, newEmp, conv2s, conv2, convs_refl, convs, conv]) ?_
    intro r hr
    simp at hr
    try simp
    omega
  · have hlt2 : ¬ (j : Int) < f.marks.length := by omega
    have hF := And.intro (hlt) (hlt2)
    repeat (first | refine wD1 ?_ | refine wD2 ?_ | refine wE1 ?_ | refine wE2 ?_ | refine wN ?_ | ((with_reducible show evIs _ (_ :: _) _ _); first | refine wQ ?_ | refine wF ?_ | refine wG ?_ | refine wT ?_ | refine wM ?_ | refine wS ?_ | refine wP ?_))
    clear hF
    repeat refine evDone ?_
    try (show AW _ _ _ _ _)
    repeat refine AW.seq ?_
    refine AW.condF (by simp []) (by simp []) ?_
    have hjj : j = f.marks.length := by omega
    subst hjj
    refine AW.exit ?_
    refine ⟨_, ?_, hQ m hm⟩
    refine Fit.mk _ _ _ (by simp [h7, h4, h1, h0, hn1, hn2, conv2, conv]) (by simp [h7, h4, h1, h0, hn1, hn2, heapFit, newEmp, conv2s, conv2, convs_refl, convs, conv]) ?_
    intro r hr
    simp at hr
    try simp
    omega

theorem f29_frame (c : Coro) (f : Frame) (i n : Nat) (hi : c.frames[i]? = some f) (hok : f.ok) (hn : 7 < n) {Q : AE → St → Prop}
    (hQ : ∀ m, 7 < m → Q .normal (mkS [(1, .ptr 0 0 0), (2, .ptr 1 0 0), (17, .hdr 7 0 c.frames.length), (18, .int .i64 c.frames.length), (19, .int .i64 i)]
      [(0, ⟨6, true, [.agg (c29 c)]⟩), (1, ⟨6, true, [.agg z29]⟩), (4, ⟨1, false, c.waits.map (AV.int .i64)⟩), (7, ⟨5, false, midM Frame.am (Frame.av false) c.frames (i + 1)⟩)] m)) :
    AW Try.prog 87 (.seq a29_r4 (.seq a29_r5 (.seq (.seq a29_r6 (.block 2 (.loop a29_l1))) a29_r18))) (mkS [(1, .ptr 0 0 0), (2, .ptr 1 0 0), (17, .hdr 7 0 c.frames.length), (18, .int .i64 c.frames.length), (19, .int .i64 i)]
      [(0, ⟨6, true, [.agg (c29 c)]⟩), (1, ⟨6, true, [.agg z29]⟩), (4, ⟨1, false, c.waits.map (AV.int .i64)⟩), (7, ⟨5, false, midM Frame.am (Frame.av false) c.frames i⟩)] n) Q := by
  have hil : i < c.frames.length := (List.getElem?_eq_some_iff.1 hi).1
  have he := midM_at (f := Frame.am) (g := Frame.av false) hi
  have hset := midM_set (f := Frame.am) (g := Frame.av false) hi
  have hml := midM_len (f := Frame.am) (g := Frame.av false) c.frames i
  have hnl : ∀ k, (n + k < n) = False := fun k => eq_false (by omega)
  simp only [Frame.av, Frame.am, ko_false] at he hset
  obtain ⟨ok1, ok2, hs1, hs2, hs3, hs4⟩ := id hok
  have hok1 := ok1
  clear ok1
  refine AW.out ?_
  repeat refine AW.seq ?_
  refine AW.reg ?_
  have hF := And.intro (hil) (And.intro (he) (And.intro (hml) (hnl)))
  repeat (first | refine wD1 ?_ | refine wD2 ?_ | refine wE1 ?_ | refine wE2 ?_ | refine wN ?_ | ((with_reducible show evIs _ (_ :: _) _ _); first | refine wQ ?_ | refine wF ?_ | refine wG ?_ | refine wT ?_ | refine wM ?_ | refine wS ?_ | refine wP ?_))
  clear hF
  repeat refine evDone ?_
  try (show AW _ _ _ _ _)
  repeat refine AW.seq ?_
  refine AW.draw ?_
  have hF := hnl
  repeat (first | refine wD1 ?_ | refine wD2 ?_ | refine wE1 ?_ | refine wE2 ?_ | refine wN ?_ | ((with_reducible show evIs _ (_ :: _) _ _); first | refine wQ ?_ | refine wF ?_ | refine wG ?_ | refine wT ?_ | refine wM ?_ | refine wS ?_ | refine wP ?_))
  clear hF
  repeat refine evDone ?_
  try (show AW _ _ _ _ _)
  have hF := True.intro
  refine wC (hA := f39 f.slots hs1 hs2) ?_
  clear hF
  have hF := hnl
  repeat (first | refine wD1 ?_ | refine wD2 ?_ | refine wE1 ?_ | refine wE2 ?_ | refine wN ?_ | ((with_reducible show evIs _ (_ :: _) _ _); first | refine wQ ?_ | refine wF ?_ | refine wG ?_ | refine wT ?_ | refine wM ?_ | refine wS ?_ | refine wP ?_))
  clear hF
  repeat refine evDone ?_
  try (show AW _ _ _ _ _)
  have hF := True.intro
  refine wC (hA := f39 f.stack hs3 hs4) ?_
  clear hF
  have hF := hnl
  repeat (first | refine wD1 ?_ | refine wD2 ?_ | refine wE1 ?_ | refine wE2 ?_ | refine wN ?_ | ((with_reducible show evIs _ (_ :: _) _ _); first | refine wQ ?_ | refine wF ?_ | refine wG ?_ | refine wT ?_ | refine wM ?_ | refine wS ?_ | refine wP ?_))
  clear hF
  repeat refine evDone ?_
  try (show AW _ _ _ _ _)
  have hF := hnl
  refine wA (hA := f40 (f.marks.map (Mark.av false)) (by simp [Mark.av, Val.cells]) (by simpa using hok1) (by simp; omega)) ?_
  clear hF
  have hF := hnl
  repeat (first | refine wD1 ?_ | refine wD2 ?_ | refine wE1 ?_ | refine wE2 ?_ | refine wN ?_ | ((with_reducible show evIs _ (_ :: _) _ _); first | refine wQ ?_ | refine wF ?_ | refine wG ?_ | refine wT ?_ | refine wM ?_ | refine wS ?_ | refine wP ?_))
  clear hF
  repeat refine evDone ?_
  try (show AW _ _ _ _ _)
  repeat refine AW.seq ?_
  refine AW.reg ?_
  have hF := True.intro
  repeat (first | refine wD1 ?_ | refine wD2 ?_ | refine wE1 ?_ | refine wE2 ?_ | refine wN ?_ | ((with_reducible show evIs _ (_ :: _) _ _); first | refine wQ ?_ | refine wF ?_ | refine wG ?_ | refine wT ?_ | refine wM ?_ | refine wS ?_ | refine wP ?_))
  clear hF
  repeat refine evDone ?_
  try (show AW _ _ _ _ _)
  repeat refine AW.seq ?_
  refine AW.fit (st' := mkS [(1, .ptr 0 0 0), (2, .ptr 1 0 0), (17, .hdr 7 0 c.frames.length), (18, .int .i64 c.frames.length), (19, .int .i64 i), (3, .int .i64 i), (4, .ptr (n + 20) 0 0), (37, .hdr (n + 31) 0 f.marks.length), (38, .int .i64 f.marks.length), (39, .int .i64 0)]
      [(0, ⟨6, true, [.agg (c29 c)]⟩), (1, ⟨6, true, [.agg z29]⟩), (4, ⟨1, false, c.waits.map (AV.int .i64)⟩), (7, ⟨5, false, midM Frame.am (Frame.av false) c.frames i⟩), (n + 20, ⟨5, true, [.agg [.int .i64 f.fn, .int .i64 f.pc, .sl .fro (avs false f.slots), .sl .fro (avs false f.stack), .hdr (n + 31) 0 f.marks.length]]⟩), (n + 31, ⟨10, false, midM Mark.am (Mark.av false) f.marks 0⟩)] (n + 40)) ?_ ?_
  · have h7 : ∀ k, 7 < n + k := fun k => by omega
    refine Fit.mk _ _ _ (by simp [h7, midM_zero, conv2, conv]) (by simp [h7, midM_zero, heapFit, newEmp, conv2s, conv2, convs_refl, convs, conv]) ?_
    intro r hr
    simp at hr
    try simp
    omega
  refine f29_marks c f i n (n + 40) hok hn (by omega) ?_
  intro m hm
  show AW _ _ _ _ _
  repeat refine AW.seq ?_
  refine AW.reg ?_
  have hn1 : n + 20 < m := by omega
  have hn2 : n + 31 < m := by omega
  have ht1 : (f.marks.map Mark.am).take f.marks.length = f.marks.map Mark.am := List.take_of_length_le (by simp)
  repeat (first
    | refine evD1 rfl rfl rfl ?_
    | refine evD2 rfl rfl rfl ?_
    | (refine evD1g rfl rfl rfl ?_ ?_; (focus (simp [mkS, c29, he, hml, hil, midM_full, ht1, hset]; done)))
    | (refine evD2g rfl rfl rfl ?_ ?_; (focus (simp [mkS, c29, he, hml, hil, midM_full, ht1, hset]; done)))
    | (refine evN ?_ ?_; (focus (first | exact trivial | (simp [mkS, c29, he, hml, hil, midM_full, ht1, hset, wsOf, List.lookup, rechecks, recheck, ok1, val1]; done))))
    | (with_reducible show evIs _ (_ :: _) _ _
       first
        | (refine evQ rfl rfl rfl (by conv => lhs; (try simp [mkS, c29, he, hml, hil, midM_full, ht1, hset])) ?_ ?_; (focus (simp [mkS, c29, he, hml, hil, midM_full, ht1, hset]; done)))
        | (refine evF rfl rfl ?_ ?_ ?_; (focus (simp [mkS, c29, he, hml, hil, midM_full, ht1, hset]; done)); (focus (simp [mkS, c29, he, hml, hil, midM_full, ht1, hset]; done)))
        | (refine evG rfl rfl rfl (by conv => lhs; (try simp [mkS, c29, he, hml, hil, midM_full, ht1, hset])) (by conv => lhs; (try simp [mkS, c29, he, hml, hil, midM_full, ht1, hset])) ?_ ?_ ?_; (focus (simp [mkS, c29, he, hml, hil, midM_full, ht1, hset]; done)); (focus (simp [mkS, c29, he, hml, hil, midM_full, ht1, hset]; done)))
        | (refine evT1 rfl ?_ rfl ?_ ?_; (focus (simp [mkS, c29, he, hml, hil, midM_full, ht1, hset]; done)); (focus (simp [mkS, c29, he, hml, hil, midM_full, ht1, hset]; done)))
        | (refine evM rfl rfl rfl (by conv => lhs; (try simp)) (by conv => lhs; (try simp [mkS, c29, he, hml, hil, midM_full, ht1, hset])) ?_ ?_; (focus (simp [mkS, c29, he, hml, hil, midM_full, ht1, hset]; done)))
        | (refine evS rfl rfl rfl (by conv => lhs; (try simp [mkS, c29, he, hml, hil, midM_full, ht1, hset])) (by conv => lhs; (try simp [mkS, c29, he, hml, hil, midM_full, ht1, hset])) (by conv => lhs; (try simp [mkS, c29, he, hml, hil, midM_full, ht1, hset, storeS, putAt, reCells, usedE])) ?_ ?_ ?_ ?_; (focus (simp [mkS, c29, he, hml, hil, midM_full, ht1, hset]; done)); (focus (simp [mkS, c29, he, hml, hil, midM_full, ht1, hset]; done)); (focus (simp [mkS, c29, he, hml, hil, midM_full, ht1, hset, storeOk]; done)))
        | (refine evAp rfl rfl rfl (by conv => lhs; (try simp)) (by conv => lhs; (try simp [mkS, c29, he, hml, hil, midM_full, ht1, hset])) (by conv => lhs; (try simp [mkS, c29, he, hml, hil, midM_full, ht1, hset])) (by conv => lhs; (try simp [mkS, c29, he, hml, hil, midM_full, ht1, hset, appS])) (by conv => lhs; (try simp [mkS, c29, he, hml, hil, midM_full, ht1, hset])) ?_ ?_ ?_ ?_; (focus (simp [mkS, c29, he, hml, hil, midM_full, ht1, hset]; done)); (focus (simp [mkS, c29, he, hml, hil, midM_full, ht1, hset]; done)); (focus (simp [mkS, c29, he, hml, hil, midM_full, ht1, hset, appOk]; done)))))
  repeat refine evDone ?_
  try (show AW _ _ _ _ _)
  have h7 : 7 < m := by omega
  have h4 : 4 < m := by omega
  have h1 : 1 < m := by omega
  have h0 : 0 < m := by omega
  refine ⟨_, ?_, hQ m h7⟩
  refine Fit.mk _ _ _ (by simp [c29, h7, h4, h1, h0, hn1, hn2, hset, ht1, midM_full, conv2, conv]) (by simp [c29, h7, h4, h1, h0, hn1, hn2, hset, ht1, midM_full, heapFit, newEmp, conv2s, conv2, convs_refl, convs, conv]) ?_
  intro r hr
  simp at hr
  try simp
  omega
end Go.Proofs.Ytnjdjahcepakgaa

set_option linter.unusedSimpArgs false
set_option linter.unusedVariables false
set_option maxHeartbeats 4000000
namespace Go.Proofs.Ytnjdjahcepakgaa
open Go Go.Amb Go.IntWalk

@[simp] theorem frame_len (o : Bool) (f : Frame) : (cellsOf (f.av o)).length = 5 := by simp [Frame.av]
theorem f29 (c : Coro) (hok : c.ok) : ACall Try.prog 29 [c.av false] (· = c.am) := by
  refine a29_of (by simp) ?_
  repeat refine AW.seq ?_
  refine AW.reg ?_
  have hF := Coro.av.eq_1
  repeat (first | refine wD1 ?_ | refine wD2 ?_ | refine wE1 ?_ | refine wE2 ?_ | refine wN ?_ | ((with_reducible show evIs _ (_ :: _) _ _); first | refine wQ ?_ | refine wF ?_ | refine wG ?_ | refine wT ?_ | refine wM ?_ | refine wS ?_ | refine wP ?_))
  clear hF
  repeat refine evDone ?_
  try (show AW _ _ _ _ _)
  repeat refine AW.seq ?_
  refine AW.draw ?_
  have hF := True.intro
  repeat (first | refine wD1 ?_ | refine wD2 ?_ | refine wE1 ?_ | refine wE2 ?_ | refine wN ?_ | ((with_reducible show evIs _ (_ :: _) _ _); first | refine wQ ?_ | refine wF ?_ | refine wG ?_ | refine wT ?_ | refine wM ?_ | refine wS ?_ | refine wP ?_))
  clear hF
  repeat refine evDone ?_
  try (show AW _ _ _ _ _)
  have hF := True.intro
  refine wA (hA := f37 (c.waits.map (AV.int .i64)) (by simp) (by simpa using hok.2.1) (by have := hok.2.1; simp; omega)) ?_
  clear hF
  have hF := True.intro
  repeat (first | refine wD1 ?_ | refine wD2 ?_ | refine wE1 ?_ | refine wE2 ?_ | refine wN ?_ | ((with_reducible show evIs _ (_ :: _) _ _); first | refine wQ ?_ | refine wF ?_ | refine wG ?_ | refine wT ?_ | refine wM ?_ | refine wS ?_ | refine wP ?_))
  clear hF
  repeat refine evDone ?_
  try (show AW _ _ _ _ _)
  have hF := True.intro
  refine wA (hA := f38 (c.frames.map (Frame.av false)) (by simp) (by simpa using hok.1) (by have := hok.1; simp; omega)) ?_
  clear hF
  have hF := True.intro
  repeat (first | refine wD1 ?_ | refine wD2 ?_ | refine wE1 ?_ | refine wE2 ?_ | refine wN ?_ | ((with_reducible show evIs _ (_ :: _) _ _); first | refine wQ ?_ | refine wF ?_ | refine wG ?_ | refine wT ?_ | refine wM ?_ | refine wS ?_ | refine wP ?_))
  clear hF
  repeat refine evDone ?_
  try (show AW _ _ _ _ _)
  repeat refine AW.seq ?_
  refine AW.reg ?_
  have hF := True.intro
  repeat (first | refine wD1 ?_ | refine wD2 ?_ | refine wE1 ?_ | refine wE2 ?_ | refine wN ?_ | ((with_reducible show evIs _ (_ :: _) _ _); first | refine wQ ?_ | refine wF ?_ | refine wG ?_ | refine wT ?_ | refine wM ?_ | refine wS ?_ | refine wP ?_))
  clear hF
  repeat refine evDone ?_
  try (show AW _ _ _ _ _)
  repeat refine AW.seq ?_
  refine AW.block ?_
  refine AW.loop (fun g : Nat × Nat => g.1 ≤ c.frames.length ∧ 7 < g.2) (fun g => mkS [(1, .ptr 0 0 0), (2, .ptr 1 0 0), (17, .hdr 7 0 c.frames.length), (18, .int .i64 c.frames.length), (19, .int .i64 g.1)]
      [(0, ⟨6, true, [.agg (c29 c)]⟩), (1, ⟨6, true, [.agg z29]⟩), (4, ⟨1, false, c.waits.map (AV.int .i64)⟩), (7, ⟨5, false, midM Frame.am (Frame.av false) c.frames g.1⟩)] g.2) (fun g => c.frames.length - g.1) (0, 20) ⟨by simp, by simp⟩ ?_ ?_
  · refine Fit.mk _ _ _ (by simp [c29, z29, midM_zero, conv2, conv]) (by simp [c29, z29, midM_zero, heapFit, newEmp, conv2s, conv2, convs_refl, convs, conv]) ?_
    intro r hr
    simp at hr
    try simp
    omega
  · rintro ⟨i, n⟩ ⟨hi, hn⟩
    dsimp only at hi hn ⊢
    have h4 : 4 < n := by omega
    have h1 : 1 < n := by omega
    have h0 : 0 < n := by omega
    repeat refine AW.seq ?_
    refine AW.reg ?_
    by_cases hlt : i < c.frames.length
    · obtain ⟨f, hf⟩ : ∃ f, c.frames[i]? = some f := ⟨_, List.getElem?_eq_getElem hlt⟩
      have hfm : f ∈ c.frames := List.mem_of_getElem? hf
      have hF := hlt
      repeat (first | refine wD1 ?_ | refine wD2 ?_ | refine wE1 ?_ | refine wE2 ?_ | refine wN ?_ | ((with_reducible show evIs _ (_ :: _) _ _); first | refine wQ ?_ | refine wF ?_ | refine wG ?_ | refine wT ?_ | refine wM ?_ | refine wS ?_ | refine wP ?_))
      clear hF
      repeat refine evDone ?_
      try (show AW _ _ _ _ _)
      repeat refine AW.seq ?_
      refine AW.condT (by simp []) (by simp []) ?_
      refine AW.skip ?_
      show AW _ _ _ _ _
      refine AW.seq (AW.block ?_)
      refine AW.fit (st' := mkS [(1, .ptr 0 0 0), (2, .ptr 1 0 0), (17, .hdr 7 0 c.frames.length), (18, .int .i64 c.frames.length), (19, .int .i64 i)]
        [(0, ⟨6, true, [.agg (c29 c)]⟩), (1, ⟨6, true, [.agg z29]⟩), (4, ⟨1, false, c.waits.map (AV.int .i64)⟩), (7, ⟨5, false, midM Frame.am (Frame.av false) c.frames i⟩)] n) ?_ ?_
      · refine Fit.mk _ _ _ (by simp [hn, h4, h1, h0, conv2, conv]) (by simp [hn, h4, h1, h0, heapFit, newEmp, conv2s, conv2, convs_refl, convs, conv]) ?_
        intro r hr
        simp at hr
        try simp
        omega
      refine f29_frame c f i n hf (hok.2.2 f hfm) hn ?_
      intro m hm
      show AW _ _ _ _ _
      refine AW.reg ?_
      have hw : IntKind.i64.wrap ((i : Int) + 1) = (i : Int) + 1 := i64_in _ ⟨by omega, by have := hok.1; omega⟩
      have hF := hw
      repeat (first | refine wD1 ?_ | refine wD2 ?_ | refine wE1 ?_ | refine wE2 ?_ | refine wN ?_ | ((with_reducible show evIs _ (_ :: _) _ _); first | refine wQ ?_ | refine wF ?_ | refine wG ?_ | refine wT ?_ | refine wM ?_ | refine wS ?_ | refine wP ?_))
      clear hF
      repeat refine evDone ?_
      try (show AW _ _ _ _ _)
      refine ⟨(i + 1, m), ⟨by dsimp only; omega, by dsimp only; omega⟩, by dsimp only; omega, ?_⟩
      have h4 : 4 < m := by omega
      have h1 : 1 < m := by omega
      have h0 : 0 < m := by omega
      refine Fit.mk _ _ _ (by simp [hw, hm, h4, h1, h0, conv2, conv]) (by simp [hw, hm, h4, h1, h0, heapFit, newEmp, conv2s, conv2, convs_refl, convs, conv]) ?_
      intro r hr
      simp at hr
      try simp
      omega
    · have hlt2 : ¬ (i : Int) < c.frames.length := by omega
      have hF := And.intro (hlt) (hlt2)
      repeat (first | refine wD1 ?_ | refine wD2 ?_ | refine wE1 ?_ | refine wE2 ?_ | refine wN ?_ | ((with_reducible show evIs _ (_ :: _) _ _); first | refine wQ ?_ | refine wF ?_ | refine wG ?_ | refine wT ?_ | refine wM ?_ | refine wS ?_ | refine wP ?_))
      clear hF
      repeat refine evDone ?_
      try (show AW _ _ _ _ _)
      repeat refine AW.seq ?_
      refine AW.condF (by simp []) (by simp []) ?_
      have hii : i = c.frames.length := by omega
      subst hii
      refine AW.exit ?_
      show AW _ _ _ _ _
      repeat refine AW.seq ?_
      refine AW.reg ?_
      have hF := And.intro (c29.eq_1) (z29.eq_1)
      repeat (first | refine wD1 ?_ | refine wD2 ?_ | refine wE1 ?_ | refine wE2 ?_ | refine wN ?_ | ((with_reducible show evIs _ (_ :: _) _ _); first | refine wQ ?_ | refine wF ?_ | refine wG ?_ | refine wT ?_ | refine wM ?_ | refine wS ?_ | refine wP ?_))
      clear hF
      repeat refine evDone ?_
      try (show AW _ _ _ _ _)
      have ht1 : (c.frames.map Frame.am).take c.frames.length = c.frames.map Frame.am := List.take_of_length_le (by simp)
      have ht2 : (c.waits.map (AV.int .i64)).take c.waits.length = c.waits.map (AV.int .i64) := List.take_of_length_le (by simp)
      refine AW.ret (retI rfl ?_)
      simp [midM_full, ht1, ht2, Coro.am, a29_res, resOk, resP, resV, ARes.op, R2s, R2, R1s, R1, closeOk, closeV]
theorem am_av (c : Coro) : clC c.am = c.av false := by
  obtain ⟨st, fs, fu, ws, se, ky⟩ := c
  simp [Coro.am, Coro.av, Function.comp_def]
  intro f hf
  simp [Frame.am, Frame.av, Function.comp_def]
  intro m hm
  obtain ⟨kd, tg, sl, ht, us, ⟨vk, vn, vt, vi, vs⟩⟩ := m
  simp [Mark.am, Mark.av, Val.cells, Val.av, Function.comp_def]
  intro u hu
  simp [Undo.av]
end Go.Proofs.Ytnjdjahcepakgaa

set_option linter.unusedSimpArgs false
set_option linter.unusedVariables false
set_option maxHeartbeats 4000000
namespace Go.Proofs.Ytnjdjahcepakgaa
open Go Go.Amb Go.IntWalk

theorem clC_fam (f : Frame) : clC f.am = f.av false := by
  simp [Frame.am, Frame.av, Function.comp_def]
  intro m hm
  obtain ⟨kd, tg, sl, ht, us, ⟨vk, vn, vt, vi, vs⟩⟩ := m
  simp [Mark.am, Mark.av, Val.cells, Val.av, Function.comp_def]
  intro u hu
  simp [Undo.av]
@[simp] theorem clC_comp_fam : clC ∘ Frame.am = Frame.av false := funext clC_fam
@[simp] theorem clC_comp_int (k : IntKind) : clC ∘ AV.int k = AV.int k := rfl
def wk (fs : List Fut) (c : Coro) : Coro := if (readyR c.waits (doneAt fs)).2 && c.state == 2 then { c with state := 1 } else c
def wkA (fs : List Fut) (c : Coro) : AV := (wk fs c).av false

theorem f29c (c : Coro) (hok : c.ok) : ACall Try.prog 29 [.agg [.int .i64 c.state, .sl .fro (c.frames.map (Frame.av false)), .int .i64 c.future, .sl .fro (c.waits.map (AV.int .i64)), .bool c.select, .str c.key]]
    (· = .agg [.int .i64 c.state, .sl (.own 5) (c.frames.map Frame.am), .int .i64 c.future, .sl (.own 1) (c.waits.map (AV.int .i64)), .bool c.select, .str c.key]) := f29 c hok

theorem f14 (ks : List Coro) (fs : List Fut) (hks : ks.length * 88 ≤ 140737488355328) (hok : ∀ c ∈ ks, c.ok) : ACall Try.prog 14 [.sl .fro (ks.map (Coro.av false)), futs fs] (· = .sl (.own 6) (ks.map (wkA fs))) := by
  refine a14_of (by simp) ?_
  repeat refine AW.seq ?_
  refine AW.reg ?_
  have hF := True.intro
  repeat (first | refine wD1 ?_ | refine wD2 ?_ | refine wE1 ?_ | refine wE2 ?_ | refine wN ?_ | ((with_reducible show evIs _ (_ :: _) _ _); first | refine wQ ?_ | refine wF ?_ | refine wG ?_ | refine wT ?_ | refine wM ?_ | refine wS ?_ | refine wP ?_))
  clear hF
  repeat refine evDone ?_
  try (show AW _ _ _ _ _)
  repeat refine AW.seq ?_
  refine AW.reg ?_
  have hF := True.intro
  repeat (first | refine wD1 ?_ | refine wD2 ?_ | refine wE1 ?_ | refine wE2 ?_ | refine wN ?_ | ((with_reducible show evIs _ (_ :: _) _ _); first | refine wQ ?_ | refine wF ?_ | refine wG ?_ | refine wT ?_ | refine wM ?_ | refine wS ?_ | refine wP ?_))
  clear hF
  repeat refine evDone ?_
  try (show AW _ _ _ _ _)
  repeat refine AW.seq ?_
  refine AW.reg ?_
  have hF := True.intro
  repeat (first | refine wD1 ?_ | refine wD2 ?_ | refine wE1 ?_ | refine wE2 ?_ | refine wN ?_ | ((with_reducible show evIs _ (_ :: _) _ _); first | refine wQ ?_ | refine wF ?_ | refine wG ?_ | refine wT ?_ | refine wM ?_ | refine wS ?_ | refine wP ?_))
  clear hF
  repeat refine evDone ?_
  try (show AW _ _ _ _ _)
  repeat refine AW.seq ?_
  refine AW.block ?_
  refine AW.loop (fun g : Nat × Nat × Nat => g.1 ≤ ks.length ∧ g.2.2 < g.2.1) (fun g => mkS [(1, futs fs), (5, .hdr g.2.2 0 g.1), (10, .sl .fro (ks.map (Coro.av false))), (11, .int .i64 ks.length), (12, .int .i64 g.1)]
      [(g.2.2, ⟨6, false, pre (wkA fs) ks g.1⟩)] g.2.1) (fun g => ks.length - g.1) (0, 1, 0) ⟨by simp, by simp⟩ ?_ ?_
  · refine Fit.mk _ _ _ (by simp [futs, pre_zero, conv2, newEmp, convs_refl, convs, conv]) (by simp [futs, pre_zero, heapFit, newEmp, conv2s, conv2, convs_refl, convs, conv]) (by intro q hq; first | (simp at hq; done) | (simp at hq; omega) | (simp at hq; simp; omega))
  · rintro ⟨i, n, r⟩ ⟨hi, hr⟩
    dsimp only at hi hr ⊢
    have hne : ∀ k, (r = n + k) = False := fun k => eq_false (by omega)
    have hne' : ∀ k, (n + k = r) = False := fun k => eq_false (by omega)
    have hnl : ∀ k, (n + k < n) = False := fun k => eq_false (by omega)
    have hrn : ∀ k, r < n + k := fun k => by omega
    repeat refine AW.seq ?_
    refine AW.reg ?_
    by_cases hlt : i < ks.length
    · obtain ⟨c, hc⟩ : ∃ c, ks[i]? = some c := ⟨_, List.getElem?_eq_getElem hlt⟩
      have hcm : c ∈ ks := List.mem_of_getElem? hc
      have he := elem_map (f := Coro.av false) hc
      simp only [Coro.av, ko_false] at he
      have hwl : c.waits.length ≤ 9223372036854775807 := by have := (hok c hcm).2.1; omega
      have hpl := pre_len (f := wkA fs) hi
      have hpa := pre_add (f := wkA fs) hc
      have hF := hlt
      repeat (first | refine wD1 ?_ | refine wD2 ?_ | refine wE1 ?_ | refine wE2 ?_ | refine wN ?_ | ((with_reducible show evIs _ (_ :: _) _ _); first | refine wQ ?_ | refine wF ?_ | refine wG ?_ | refine wT ?_ | refine wM ?_ | refine wS ?_ | refine wP ?_))
      clear hF
      repeat refine evDone ?_
      try (show AW _ _ _ _ _)
      repeat refine AW.seq ?_
      refine AW.condT (by simp []) (by simp []) ?_
      refine AW.skip ?_
      show AW _ _ _ _ _
      refine AW.seq (AW.block ?_)
      repeat refine AW.seq ?_
      refine AW.reg ?_
      have hF := And.intro (hlt) (And.intro (he) (And.intro (hne) (And.intro (hne') (hnl))))
      repeat (first | refine wD1 ?_ | refine wD2 ?_ | refine wE1 ?_ | refine wE2 ?_ | refine wN ?_ | ((with_reducible show evIs _ (_ :: _) _ _); first | refine wQ ?_ | refine wF ?_ | refine wG ?_ | refine wT ?_ | refine wM ?_ | refine wS ?_ | refine wP ?_))
      clear hF
      repeat refine evDone ?_
      try (show AW _ _ _ _ _)
      repeat refine AW.seq ?_
      refine AW.reg ?_
      have hF := And.intro (hne) (And.intro (hne') (hnl))
      repeat (first | refine wD1 ?_ | refine wD2 ?_ | refine wE1 ?_ | refine wE2 ?_ | refine wN ?_ | ((with_reducible show evIs _ (_ :: _) _ _); first | refine wQ ?_ | refine wF ?_ | refine wG ?_ | refine wT ?_ | refine wM ?_ | refine wS ?_ | refine wP ?_))
      clear hF
      repeat refine evDone ?_
      try (show AW _ _ _ _ _)
      have hF := True.intro
      refine wC (hA := f29c c (hok c hcm)) ?_
      clear hF
      have hF := And.intro (hne) (And.intro (hne') (hnl))
      repeat (first | refine wD1 ?_ | refine wD2 ?_ | refine wE1 ?_ | refine wE2 ?_ | refine wN ?_ | ((with_reducible show evIs _ (_ :: _) _ _); first | refine wQ ?_ | refine wF ?_ | refine wG ?_ | refine wT ?_ | refine wM ?_ | refine wS ?_ | refine wP ?_))
      clear hF
      repeat refine evDone ?_
      try (show AW _ _ _ _ _)
      refine AW.cut (st' := mkS [(1, futs fs), (5, .hdr r 0 i), (7, .ptr (n + 8) 0 0), (10, .sl .fro (ks.map (Coro.av false))), (11, .int .i64 ks.length), (12, .int .i64 i)]
        [(r, ⟨6, false, pre (wkA fs) ks i⟩), (n + 8, ⟨6, true, [wkA fs c]⟩)] (n + 20)) ?_ ?_
      · repeat refine AW.seq ?_
        refine AW.reg ?_
        have hF := And.intro (hne) (And.intro (hne') (hnl))
        repeat (first | refine wD1 ?_ | refine wD2 ?_ | refine wE1 ?_ | refine wE2 ?_ | refine wN ?_ | ((with_reducible show evIs _ (_ :: _) _ _); first | refine wQ ?_ | refine wF ?_ | refine wG ?_ | refine wT ?_ | refine wM ?_ | refine wS ?_ | refine wP ?_))
        clear hF
        repeat refine evDone ?_
        try (show AW _ _ _ _ _)
        have hF := True.intro
        refine wC (hA := f8 fs c.waits hwl) ?_
        clear hF
        have hF := And.intro (hne) (And.intro (hne') (hnl))
        repeat (first | refine wD1 ?_ | refine wD2 ?_ | refine wE1 ?_ | refine wE2 ?_ | refine wN ?_ | ((with_reducible show evIs _ (_ :: _) _ _); first | refine wQ ?_ | refine wF ?_ | refine wG ?_ | refine wT ?_ | refine wM ?_ | refine wS ?_ | refine wP ?_))
        clear hF
        repeat refine evDone ?_
        try (show AW _ _ _ _ _)
        repeat refine AW.seq ?_
        refine AW.reg ?_
        have hw : wk fs c = if (readyR c.waits (doneAt fs)).2 && c.state == 2 then { c with state := 1 } else c := rfl
        cases hb : (readyR c.waits (doneAt fs)).2
        · have hF := And.intro (hne) (And.intro (hne') (And.intro (hnl) (hb)))
          repeat (first | refine wD1 ?_ | refine wD2 ?_ | refine wE1 ?_ | refine wE2 ?_ | refine wN ?_ | ((with_reducible show evIs _ (_ :: _) _ _); first | refine wQ ?_ | refine wF ?_ | refine wG ?_ | refine wT ?_ | refine wM ?_ | refine wS ?_ | refine wP ?_))
          clear hF
          repeat refine evDone ?_
          try (show AW _ _ _ _ _)
          repeat refine AW.seq ?_
          refine AW.condF (by simp []) (by simp []) ?_
          refine AW.skip ⟨rfl, ?_⟩
          refine Fit.mk _ _ _ (by simp [hne, hne', hrn, wkA, hw, hb, Coro.av, conv2, newEmp, convs_refl, convs, conv]) (by simp [hne, hne', hrn, wkA, hw, hb, Coro.av, heapFit, newEmp, conv2s, conv2, convs_refl, convs, conv]) (by intro q hq; first | (simp at hq; done) | (simp at hq; omega) | (simp at hq; simp; omega))
        · by_cases hs : c.state = 2
          · have hF := And.intro (hne) (And.intro (hne') (And.intro (hnl) (And.intro (hb) (hs))))
            repeat (first | refine wD1 ?_ | refine wD2 ?_ | refine wE1 ?_ | refine wE2 ?_ | refine wN ?_ | ((with_reducible show evIs _ (_ :: _) _ _); first | refine wQ ?_ | refine wF ?_ | refine wG ?_ | refine wT ?_ | refine wM ?_ | refine wS ?_ | refine wP ?_))
            clear hF
            repeat refine evDone ?_
            try (show AW _ _ _ _ _)
            repeat refine AW.seq ?_
            refine AW.condT (by simp []) (by simp []) ?_
            refine AW.reg ?_
            have hF := And.intro (hne) (And.intro (hne') (And.intro (hnl) (And.intro (hb) (hs))))
            repeat (first | refine wD1 ?_ | refine wD2 ?_ | refine wE1 ?_ | refine wE2 ?_ | refine wN ?_ | ((with_reducible show evIs _ (_ :: _) _ _); first | refine wQ ?_ | refine wF ?_ | refine wG ?_ | refine wT ?_ | refine wM ?_ | refine wS ?_ | refine wP ?_))
            clear hF
            repeat refine evDone ?_
            try (show AW _ _ _ _ _)
            refine ⟨rfl, ?_⟩
            refine Fit.mk _ _ _ (by simp [hne, hne', hrn, wkA, hw, hb, hs, Coro.av, conv2, newEmp, convs_refl, convs, conv]) (by simp [hne, hne', hrn, wkA, hw, hb, hs, Coro.av, heapFit, newEmp, conv2s, conv2, convs_refl, convs, conv]) (by intro q hq; first | (simp at hq; done) | (simp at hq; omega) | (simp at hq; simp; omega))
          · have hF := And.intro (hne) (And.intro (hne') (And.intro (hnl) (And.intro (hb) (hs))))
            repeat (first | refine wD1 ?_ | refine wD2 ?_ | refine wE1 ?_ | refine wE2 ?_ | refine wN ?_ | ((with_reducible show evIs _ (_ :: _) _ _); first | refine wQ ?_ | refine wF ?_ | refine wG ?_ | refine wT ?_ | refine wM ?_ | refine wS ?_ | refine wP ?_))
            clear hF
            repeat refine evDone ?_
            try (show AW _ _ _ _ _)
            repeat refine AW.seq ?_
            refine AW.condF (by simp [hs]) (by simp [hs]) ?_
            refine AW.skip ⟨rfl, ?_⟩
            refine Fit.mk _ _ _ (by simp [hne, hne', hrn, wkA, hw, hb, hs, Coro.av, conv2, newEmp, convs_refl, convs, conv]) (by simp [hne, hne', hrn, wkA, hw, hb, hs, Coro.av, heapFit, newEmp, conv2s, conv2, convs_refl, convs, conv]) (by intro q hq; first | (simp at hq; done) | (simp at hq; omega) | (simp at hq; simp; omega))
      · have hwa : wkA fs c = (wk fs c).av false := rfl
        generalize wk fs c = c' at hwa
        obtain ⟨st, frs, fu, ws, se, ky⟩ := c'
        simp only [Coro.av, ko_false] at hwa
        rw [hwa] at hpa ⊢
        have hby : (i + 1) * 88 ≤ 140737488355328 := by omega
        have hby2 : i + 1 ≤ 9223372036854775807 := by omega
        repeat refine AW.seq ?_
        refine AW.reg ?_
        have hF := And.intro (hne) (And.intro (hne') (And.intro (hnl) (And.intro (hpl) (And.intro (hby) (hby2)))))
        repeat (first | refine wD1 ?_ | refine wD2 ?_ | refine wE1 ?_ | refine wE2 ?_ | refine wN ?_ | ((with_reducible show evIs _ (_ :: _) _ _); first | refine wQ ?_ | refine wF ?_ | refine wG ?_ | refine wT ?_ | refine wM ?_ | refine wS ?_ | refine wP ?_))
        clear hF
        repeat refine evDone ?_
        try (show AW _ _ _ _ _)
        show AW _ _ _ _ _
        refine AW.reg ?_
        have hw : IntKind.i64.wrap ((i : Int) + 1) = (i : Int) + 1 := i64_in _ ⟨by omega, by omega⟩
        have hF := hw
        repeat (first | refine wD1 ?_ | refine wD2 ?_ | refine wE1 ?_ | refine wE2 ?_ | refine wN ?_ | ((with_reducible show evIs _ (_ :: _) _ _); first | refine wQ ?_ | refine wF ?_ | refine wG ?_ | refine wT ?_ | refine wM ?_ | refine wS ?_ | refine wP ?_))
        clear hF
        repeat refine evDone ?_
        try (show AW _ _ _ _ _)
        refine ⟨(i + 1, n + 60, n + 53), ⟨by dsimp only; omega, by dsimp only; omega⟩, by dsimp only; omega, ?_⟩
        refine Fit.mk _ _ _ (by simp [hw, hne, hne', hpl, hpa, hrn, conv2, newEmp, convs_refl, convs, conv]) (by simp [hw, hne, hne', hpl, hpa, hrn, heapFit, newEmp, conv2s, conv2, convs_refl, convs, conv]) (by intro q hq; first | (simp at hq; done) | (simp at hq; omega) | (simp at hq; simp; omega))
    · have hlt2 : ¬ (i : Int) < ks.length := by omega
      have hF := And.intro (hlt) (hlt2)
      repeat (first | refine wD1 ?_ | refine wD2 ?_ | refine wE1 ?_ | refine wE2 ?_ | refine wN ?_ | ((with_reducible show evIs _ (_ :: _) _ _); first | refine wQ ?_ | refine wF ?_ | refine wG ?_ | refine wT ?_ | refine wM ?_ | refine wS ?_ | refine wP ?_))
      clear hF
      repeat refine evDone ?_
      try (show AW _ _ _ _ _)
      repeat refine AW.seq ?_
      refine AW.condF (by simp []) (by simp []) ?_
      have hii : i = ks.length := by omega
      subst hii
      refine AW.exit ?_
      show AW _ _ _ _ _
      repeat refine AW.seq ?_
      refine AW.reg ?_
      have hF := True.intro
      repeat (first | refine wD1 ?_ | refine wD2 ?_ | refine wE1 ?_ | refine wE2 ?_ | refine wN ?_ | ((with_reducible show evIs _ (_ :: _) _ _); first | refine wQ ?_ | refine wF ?_ | refine wG ?_ | refine wT ?_ | refine wM ?_ | refine wS ?_ | refine wP ?_))
      clear hF
      repeat refine evDone ?_
      try (show AW _ _ _ _ _)
      have hpl := pre_len (f := wkA fs) hi
      have ht : (ks.map (wkA fs)).take ks.length = ks.map (wkA fs) := List.take_of_length_le (by simp)
      refine AW.ret (retI rfl ?_)
      simp [pre_full, ht, a14_res, resOk, resP, resV, ARes.op, R2s, R2, R1s, R1, closeOk, closeV]
end Go.Proofs.Ytnjdjahcepakgaa

set_option linter.unusedSimpArgs false
set_option linter.unusedVariables false
set_option maxHeartbeats 4000000
namespace Go.Proofs.Ytnjdjahcepakgaa
open Go Go.Amb Go.IntWalk

def fut0 (s : Int) : Fut := ⟨s, [.int .i64 0, .int .i64 0, .int .i64 0, .int .i64 0, .str ⟨#[]⟩, .sl .fro [], .sl .fro []], rfl, by simp [AV.shr, AV.one]⟩
abbrev futA (s : Int) : AV := .agg [.int .i64 s, .int .i64 0, .int .i64 0, .int .i64 0, .int .i64 0, .str ⟨#[]⟩, .sl .fro [], .sl .fro []]
theorem w1 : ACall Try.prog 8 [.sl .fro [futA 0, futA 1, futA 2], .sl .fro [.int .i64 0, .int .i64 2, .int .i64 1]] (· = .tup [.int .i64 1, .bool true]) :=
  f8 [fut0 0, fut0 1, fut0 2] [0, 2, 1] (by simp)
theorem w2 : ACall Try.prog 8 [.sl .fro [futA 0, futA 1, futA 2], .sl .fro [.int .i64 0, .int .i64 7]] (· = .tup [.int .i64 0, .bool false]) :=
  f8 [fut0 0, fut0 1, fut0 2] [0, 7] (by simp)
theorem w3 : ACall Try.prog 10 [.sl .fro [futA 0, futA 1, futA 2], .sl .fro [.int .i64 1, .int .i64 2]] (· = .bool true) :=
  f10 [fut0 0, fut0 1, fut0 2] [1, 2] (by simp)
theorem w4 : ACall Try.prog 10 [.sl .fro [futA 0, futA 1, futA 2], .sl .fro [.int .i64 1, .int .i64 0]] (· = .bool false) :=
  f10 [fut0 0, fut0 1, fut0 2] [1, 0] (by simp)
theorem w5 : ACall Try.prog 14 [.sl .fro [.agg [.int .i64 2, .sl .fro [], .int .i64 0, .sl .fro [.int .i64 0, .int .i64 1], .bool false, .str ⟨#[]⟩]], .sl .fro [futA 0, futA 1, futA 2]]
    (· = .sl (.own 6) [.agg [.int .i64 1, .sl .fro [], .int .i64 0, .sl .fro [.int .i64 0, .int .i64 1], .bool false, .str ⟨#[]⟩]]) :=
  f14 [⟨2, [], 0, [0, 1], false, ⟨#[]⟩⟩] [fut0 0, fut0 1, fut0 2] (by simp) (by simp [Coro.ok])

theorem f7 : ACall Try.prog 7 [] (· = .bool true) := by
  refine a7_of (by simp) ?_
  repeat refine AW.seq ?_
  refine AW.reg ?_
  have hF := True.intro
  repeat (first | refine wD1 ?_ | refine wD2 ?_ | refine wE1 ?_ | refine wE2 ?_ | refine wN ?_ | ((with_reducible show evIs _ (_ :: _) _ _); first | refine wQ ?_ | refine wF ?_ | refine wG ?_ | refine wT ?_ | refine wM ?_ | refine wS ?_ | refine wP ?_))
  clear hF
  repeat refine evDone ?_
  try (show AW _ _ _ _ _)
  repeat refine AW.seq ?_
  refine AW.reg ?_
  have hF := True.intro
  repeat (first | refine wD1 ?_ | refine wD2 ?_ | refine wE1 ?_ | refine wE2 ?_ | refine wN ?_ | ((with_reducible show evIs _ (_ :: _) _ _); first | refine wQ ?_ | refine wF ?_ | refine wG ?_ | refine wT ?_ | refine wM ?_ | refine wS ?_ | refine wP ?_))
  clear hF
  repeat refine evDone ?_
  try (show AW _ _ _ _ _)
  repeat refine AW.seq ?_
  refine AW.reg ?_
  have hF := True.intro
  repeat (first | refine wD1 ?_ | refine wD2 ?_ | refine wE1 ?_ | refine wE2 ?_ | refine wN ?_ | ((with_reducible show evIs _ (_ :: _) _ _); first | refine wQ ?_ | refine wF ?_ | refine wG ?_ | refine wT ?_ | refine wM ?_ | refine wS ?_ | refine wP ?_))
  clear hF
  repeat refine evDone ?_
  try (show AW _ _ _ _ _)
  have hF := True.intro
  refine wC (hA := w1) ?_
  clear hF
  have hF := True.intro
  repeat (first | refine wD1 ?_ | refine wD2 ?_ | refine wE1 ?_ | refine wE2 ?_ | refine wN ?_ | ((with_reducible show evIs _ (_ :: _) _ _); first | refine wQ ?_ | refine wF ?_ | refine wG ?_ | refine wT ?_ | refine wM ?_ | refine wS ?_ | refine wP ?_))
  clear hF
  repeat refine evDone ?_
  try (show AW _ _ _ _ _)
  repeat refine AW.seq ?_
  refine AW.reg ?_
  have hF := True.intro
  repeat (first | refine wD1 ?_ | refine wD2 ?_ | refine wE1 ?_ | refine wE2 ?_ | refine wN ?_ | ((with_reducible show evIs _ (_ :: _) _ _); first | refine wQ ?_ | refine wF ?_ | refine wG ?_ | refine wT ?_ | refine wM ?_ | refine wS ?_ | refine wP ?_))
  clear hF
  repeat refine evDone ?_
  try (show AW _ _ _ _ _)
  have hF := True.intro
  refine wC (hA := w2) ?_
  clear hF
  have hF := True.intro
  repeat (first | refine wD1 ?_ | refine wD2 ?_ | refine wE1 ?_ | refine wE2 ?_ | refine wN ?_ | ((with_reducible show evIs _ (_ :: _) _ _); first | refine wQ ?_ | refine wF ?_ | refine wG ?_ | refine wT ?_ | refine wM ?_ | refine wS ?_ | refine wP ?_))
  clear hF
  repeat refine evDone ?_
  try (show AW _ _ _ _ _)
  repeat refine AW.seq ?_
  refine AW.reg ?_
  have hF := True.intro
  repeat (first | refine wD1 ?_ | refine wD2 ?_ | refine wE1 ?_ | refine wE2 ?_ | refine wN ?_ | ((with_reducible show evIs _ (_ :: _) _ _); first | refine wQ ?_ | refine wF ?_ | refine wG ?_ | refine wT ?_ | refine wM ?_ | refine wS ?_ | refine wP ?_))
  clear hF
  repeat refine evDone ?_
  try (show AW _ _ _ _ _)
  have hF := True.intro
  refine wC (hA := w5) ?_
  clear hF
  have hF := True.intro
  repeat (first | refine wD1 ?_ | refine wD2 ?_ | refine wE1 ?_ | refine wE2 ?_ | refine wN ?_ | ((with_reducible show evIs _ (_ :: _) _ _); first | refine wQ ?_ | refine wF ?_ | refine wG ?_ | refine wT ?_ | refine wM ?_ | refine wS ?_ | refine wP ?_))
  clear hF
  repeat refine evDone ?_
  try (show AW _ _ _ _ _)
  repeat refine AW.seq ?_
  refine AW.reg ?_
  have hF := True.intro
  repeat (first | refine wD1 ?_ | refine wD2 ?_ | refine wE1 ?_ | refine wE2 ?_ | refine wN ?_ | ((with_reducible show evIs _ (_ :: _) _ _); first | refine wQ ?_ | refine wF ?_ | refine wG ?_ | refine wT ?_ | refine wM ?_ | refine wS ?_ | refine wP ?_))
  clear hF
  repeat refine evDone ?_
  try (show AW _ _ _ _ _)
  have hF := True.intro
  refine wC (hA := w3) ?_
  clear hF
  have hF := True.intro
  repeat (first | refine wD1 ?_ | refine wD2 ?_ | refine wE1 ?_ | refine wE2 ?_ | refine wN ?_ | ((with_reducible show evIs _ (_ :: _) _ _); first | refine wQ ?_ | refine wF ?_ | refine wG ?_ | refine wT ?_ | refine wM ?_ | refine wS ?_ | refine wP ?_))
  clear hF
  repeat refine evDone ?_
  try (show AW _ _ _ _ _)
  have hF := True.intro
  refine wC (hA := w4) ?_
  clear hF
  have hF := True.intro
  repeat (first | refine wD1 ?_ | refine wD2 ?_ | refine wE1 ?_ | refine wE2 ?_ | refine wN ?_ | ((with_reducible show evIs _ (_ :: _) _ _); first | refine wQ ?_ | refine wF ?_ | refine wG ?_ | refine wT ?_ | refine wM ?_ | refine wS ?_ | refine wP ?_))
  clear hF
  repeat refine evDone ?_
  try (show AW _ _ _ _ _)
  refine AW.ret (retI rfl ?_)
  simp [a7_res, resOk, resP, resV, ARes.op, R2s, R2, R1s, R1, closeOk, closeV]

theorem f3 (fs : List Fut) (xs : List Int) : ACall Try.prog 3 [futs fs, ints xs] (· = .bool true) := by
  refine a3_of (by simp) ?_
  repeat refine AW.seq ?_
  refine AW.reg ?_
  have hF := True.intro
  repeat (first | refine wD1 ?_ | refine wD2 ?_ | refine wE1 ?_ | refine wE2 ?_ | refine wN ?_ | ((with_reducible show evIs _ (_ :: _) _ _); first | refine wQ ?_ | refine wF ?_ | refine wG ?_ | refine wT ?_ | refine wM ?_ | refine wS ?_ | refine wP ?_))
  clear hF
  repeat refine evDone ?_
  try (show AW _ _ _ _ _)
  repeat refine AW.seq ?_
  refine AW.reg ?_
  by_cases h1 : fs.length ≤ 100
  · by_cases h2 : xs.length ≤ 100
    · have h1' : ¬ (100 : Int) < fs.length := by omega
      have h2' : ¬ (100 : Int) < xs.length := by omega
      have hlen : xs.length ≤ 9223372036854775807 := by omega
      have hF := And.intro (h1') (h2')
      repeat (first | refine wD1 ?_ | refine wD2 ?_ | refine wE1 ?_ | refine wE2 ?_ | refine wN ?_ | ((with_reducible show evIs _ (_ :: _) _ _); first | refine wQ ?_ | refine wF ?_ | refine wG ?_ | refine wT ?_ | refine wM ?_ | refine wS ?_ | refine wP ?_))
      clear hF
      repeat refine evDone ?_
      try (show AW _ _ _ _ _)
      repeat refine AW.seq ?_
      refine AW.condF (by simp []) (by simp []) ?_
      refine AW.skip ?_
      show AW _ _ _ _ _
      repeat refine AW.seq ?_
      refine AW.reg ?_
      have hF := True.intro
      repeat (first | refine wD1 ?_ | refine wD2 ?_ | refine wE1 ?_ | refine wE2 ?_ | refine wN ?_ | ((with_reducible show evIs _ (_ :: _) _ _); first | refine wQ ?_ | refine wF ?_ | refine wG ?_ | refine wT ?_ | refine wM ?_ | refine wS ?_ | refine wP ?_))
      clear hF
      repeat refine evDone ?_
      try (show AW _ _ _ _ _)
      have hF := True.intro
      refine wC (hA := f8 fs xs hlen) ?_
      clear hF
      have hF := True.intro
      repeat (first | refine wD1 ?_ | refine wD2 ?_ | refine wE1 ?_ | refine wE2 ?_ | refine wN ?_ | ((with_reducible show evIs _ (_ :: _) _ _); first | refine wQ ?_ | refine wF ?_ | refine wG ?_ | refine wT ?_ | refine wM ?_ | refine wS ?_ | refine wP ?_))
      clear hF
      repeat refine evDone ?_
      try (show AW _ _ _ _ _)
      repeat refine AW.seq ?_
      refine AW.reg ?_
      have hF := True.intro
      repeat (first | refine wD1 ?_ | refine wD2 ?_ | refine wE1 ?_ | refine wE2 ?_ | refine wN ?_ | ((with_reducible show evIs _ (_ :: _) _ _); first | refine wQ ?_ | refine wF ?_ | refine wG ?_ | refine wT ?_ | refine wM ?_ | refine wS ?_ | refine wP ?_))
      clear hF
      repeat refine evDone ?_
      try (show AW _ _ _ _ _)
      have hF := True.intro
      refine wC (hA := f9 fs xs hlen) ?_
      clear hF
      have hF := True.intro
      repeat (first | refine wD1 ?_ | refine wD2 ?_ | refine wE1 ?_ | refine wE2 ?_ | refine wN ?_ | ((with_reducible show evIs _ (_ :: _) _ _); first | refine wQ ?_ | refine wF ?_ | refine wG ?_ | refine wT ?_ | refine wM ?_ | refine wS ?_ | refine wP ?_))
      clear hF
      repeat refine evDone ?_
      try (show AW _ _ _ _ _)
      repeat refine AW.seq ?_
      refine AW.reg ?_
      have hF := True.intro
      repeat (first | refine wD1 ?_ | refine wD2 ?_ | refine wE1 ?_ | refine wE2 ?_ | refine wN ?_ | ((with_reducible show evIs _ (_ :: _) _ _); first | refine wQ ?_ | refine wF ?_ | refine wG ?_ | refine wT ?_ | refine wM ?_ | refine wS ?_ | refine wP ?_))
      clear hF
      repeat refine evDone ?_
      try (show AW _ _ _ _ _)
      have hF := True.intro
      refine wC (hA := f10 fs xs hlen) ?_
      clear hF
      have hF := True.intro
      repeat (first | refine wD1 ?_ | refine wD2 ?_ | refine wE1 ?_ | refine wE2 ?_ | refine wN ?_ | ((with_reducible show evIs _ (_ :: _) _ _); first | refine wQ ?_ | refine wF ?_ | refine wG ?_ | refine wT ?_ | refine wM ?_ | refine wS ?_ | refine wP ?_))
      clear hF
      repeat refine evDone ?_
      try (show AW _ _ _ _ _)
      have hF := True.intro
      refine wC (hA := f11 fs xs hlen) ?_
      clear hF
      have hF := True.intro
      repeat (first | refine wD1 ?_ | refine wD2 ?_ | refine wE1 ?_ | refine wE2 ?_ | refine wN ?_ | ((with_reducible show evIs _ (_ :: _) _ _); first | refine wQ ?_ | refine wF ?_ | refine wG ?_ | refine wT ?_ | refine wM ?_ | refine wS ?_ | refine wP ?_))
      clear hF
      repeat refine evDone ?_
      try (show AW _ _ _ _ _)
      have hF := True.intro
      refine wC (hA := f7) ?_
      clear hF
      have hF := True.intro
      repeat (first | refine wD1 ?_ | refine wD2 ?_ | refine wE1 ?_ | refine wE2 ?_ | refine wN ?_ | ((with_reducible show evIs _ (_ :: _) _ _); first | refine wQ ?_ | refine wF ?_ | refine wG ?_ | refine wT ?_ | refine wM ?_ | refine wS ?_ | refine wP ?_))
      clear hF
      repeat refine evDone ?_
      try (show AW _ _ _ _ _)
      refine AW.ret (retI rfl ?_)
      simp [a3_res, resOk, resP, resV, ARes.op, R2s, R2, R1s, R1, closeOk, closeV]
    · have h1' : ¬ (100 : Int) < fs.length := by omega
      have h2' : (100 : Int) < xs.length := by omega
      have hF := And.intro (h1') (h2')
      repeat (first | refine wD1 ?_ | refine wD2 ?_ | refine wE1 ?_ | refine wE2 ?_ | refine wN ?_ | ((with_reducible show evIs _ (_ :: _) _ _); first | refine wQ ?_ | refine wF ?_ | refine wG ?_ | refine wT ?_ | refine wM ?_ | refine wS ?_ | refine wP ?_))
      clear hF
      repeat refine evDone ?_
      try (show AW _ _ _ _ _)
      repeat refine AW.seq ?_
      refine AW.condT (by simp []) (by simp []) ?_
      repeat refine AW.seq ?_
      refine AW.reg ?_
      have hF := True.intro
      repeat (first | refine wD1 ?_ | refine wD2 ?_ | refine wE1 ?_ | refine wE2 ?_ | refine wN ?_ | ((with_reducible show evIs _ (_ :: _) _ _); first | refine wQ ?_ | refine wF ?_ | refine wG ?_ | refine wT ?_ | refine wM ?_ | refine wS ?_ | refine wP ?_))
      clear hF
      repeat refine evDone ?_
      try (show AW _ _ _ _ _)
      have hF := True.intro
      refine wC (hA := f7) ?_
      clear hF
      have hF := True.intro
      repeat (first | refine wD1 ?_ | refine wD2 ?_ | refine wE1 ?_ | refine wE2 ?_ | refine wN ?_ | ((with_reducible show evIs _ (_ :: _) _ _); first | refine wQ ?_ | refine wF ?_ | refine wG ?_ | refine wT ?_ | refine wM ?_ | refine wS ?_ | refine wP ?_))
      clear hF
      repeat refine evDone ?_
      try (show AW _ _ _ _ _)
      refine AW.ret (retI rfl ?_)
      simp [a3_res, resOk, resP, resV, ARes.op, R2s, R2, R1s, R1, closeOk, closeV]
  · have h1' : (100 : Int) < fs.length := by omega
    have hF := h1'
    repeat (first | refine wD1 ?_ | refine wD2 ?_ | refine wE1 ?_ | refine wE2 ?_ | refine wN ?_ | ((with_reducible show evIs _ (_ :: _) _ _); first | refine wQ ?_ | refine wF ?_ | refine wG ?_ | refine wT ?_ | refine wM ?_ | refine wS ?_ | refine wP ?_))
    clear hF
    repeat refine evDone ?_
    try (show AW _ _ _ _ _)
    repeat refine AW.seq ?_
    refine AW.condT (by simp []) (by simp []) ?_
    repeat refine AW.seq ?_
    refine AW.reg ?_
    have hF := True.intro
    repeat (first | refine wD1 ?_ | refine wD2 ?_ | refine wE1 ?_ | refine wE2 ?_ | refine wN ?_ | ((with_reducible show evIs _ (_ :: _) _ _); first | refine wQ ?_ | refine wF ?_ | refine wG ?_ | refine wT ?_ | refine wM ?_ | refine wS ?_ | refine wP ?_))
    clear hF
    repeat refine evDone ?_
    try (show AW _ _ _ _ _)
    have hF := True.intro
    refine wC (hA := f7) ?_
    clear hF
    have hF := True.intro
    repeat (first | refine wD1 ?_ | refine wD2 ?_ | refine wE1 ?_ | refine wE2 ?_ | refine wN ?_ | ((with_reducible show evIs _ (_ :: _) _ _); first | refine wQ ?_ | refine wF ?_ | refine wG ?_ | refine wT ?_ | refine wM ?_ | refine wS ?_ | refine wP ?_))
    clear hF
    repeat refine evDone ?_
    try (show AW _ _ _ _ _)
    refine AW.ret (retI rfl ?_)
    simp [a3_res, resOk, resP, resV, ARes.op, R2s, R2, R1s, R1, closeOk, closeV]
end Go.Proofs.Ytnjdjahcepakgaa

set_option linter.unusedSimpArgs false
set_option linter.unusedVariables false
set_option maxHeartbeats 4000000
namespace Go.Proofs.Ytnjdjahcepakgaa
open Go Go.Amb Go.IntWalk

section
variable {H : Type} {enc : TypeId × Value → H} {w : World} {n : Nat} {cs : List Value} {x : DataW H × List MemPlace}
theorem bytes41 : Try.prog.bytesOf 41 = 80 := by kernel_rfl
theorem bytes9 : Try.prog.bytesOf 9 = 16 := by kernel_rfl
theorem okvs_of : ∀ {vs : List Val}, (∀ v ∈ vs, v.okv) → okvs vs
  | [], _ => trivial
  | v :: vs, h => ⟨h v (by simp), okvs_of fun z hz => h z (by simp [hz])⟩
theorem tell_val : ∀ (n : Nat) (cs : List Value) (x : DataW H × List MemPlace), DataW.trod enc Try.prog w 0 (fun _ => true) true n 41 cs = some x →
    ∃ v : Val, Tell w (cellsOf (v.av false)) cs ∧ (cellsOf (v.av false)).length = Try.prog.cellsOf 41 ∧ (WOk Try.prog 41 x.1 → v.okv) := by
  intro n
  induction n using Nat.strongRecOn with
  | _ n ih =>
    intro cs x h
    obtain ⟨css, ds, m, rfl, hx, rfl, he⟩ := tell_fields Try.underlying41 (by kernel_rfl) h
    obtain ⟨c0, css, d0, ds, rfl, rfl, ⟨p0, h0⟩, he⟩ := each_cons he
    obtain ⟨c1, css, d1, ds, rfl, rfl, ⟨p1, h1⟩, he⟩ := each_cons he
    obtain ⟨c2, css, d2, ds, rfl, rfl, ⟨p2, h2⟩, he⟩ := each_cons he
    obtain ⟨c3, css, d3, ds, rfl, rfl, ⟨p3, h3⟩, he⟩ := each_cons he
    obtain ⟨c4, css, d4, ds, rfl, rfl, ⟨p4, h4⟩, he⟩ := each_cons he
    obtain ⟨rfl, rfl⟩ := each_nil he
    obtain ⟨i0, t0, e0, _⟩ := tell_int Try.underlying3 h0
    obtain ⟨i1, t1, e1, _⟩ := tell_int Try.underlying3 h1
    obtain ⟨i2, t2, e2, _⟩ := tell_str Try.underlying9 h2
    obtain ⟨i3, t3, _, e3⟩ := tell_slice Try.underlying38 (by decide +kernel) (Val.av false) (fun v d => WOk Try.prog 41 d → v.okv) h3 (fun m' hm cs x hx => ih m' (by omega) cs x hx)
    obtain ⟨i4, t4, _, e4⟩ := tell_slice Try.underlying39 (by decide +kernel) AV.str (fun v d => WOk Try.prog 9 d → True) h4 (fun m' hm cs x hx => by
      obtain ⟨s, a, _⟩ := tell_str Try.underlying9 hx
      exact ⟨s, a, by kernel_rfl, fun _ => trivial⟩)
    refine ⟨⟨i0, i1, i2, i3, i4⟩, ?_, by simp; kernel_rfl, ?_⟩
    · have := t0.app (t1.app (t2.app (t3.app t4)))
      simpa [Val.av, avs_map] using this
    · intro hw
      rw [hx] at hw
      have hw3 : WOk Try.prog 38 d3 := fun k hk => hw k (by simp [DataW.weights, Try.underlying41, DataW.weightsEach, hk])
      have hw4 : WOk Try.prog 39 d4 := fun k hk => hw k (by simp [DataW.weights, Try.underlying41, DataW.weightsEach, hk])
      have a3 := slOf_ok Try.underlying38 e3 hw3
      have a4 := slOf_ok Try.underlying39 e4 hw4
      rw [bytes41] at a3
      rw [bytes9] at a4
      unfold reachBytes at a3 a4
      exact ⟨by omega, by omega, okvs_of a3.2⟩

def Fut.of (a b c : Int) (v : Val) : Fut := ⟨a, [.int .i64 b, .int .i64 c] ++ cellsOf (v.av false), by simp, by
  obtain ⟨k, n, t, is, ks⟩ := v
  simp [Val.av, AV.shr, AV.one]⟩
theorem tell_fut (h : DataW.trod enc Try.prog w 0 (fun _ => true) true n 43 cs = some x) : ∃ f : Fut, Tell w (cellsOf f.av) cs ∧ (cellsOf f.av).length = Try.prog.cellsOf 43 ∧ True := by
  obtain ⟨css, ds, m, rfl, hx, rfl, he⟩ := tell_fields Try.underlying43 (by kernel_rfl) h
  obtain ⟨c0, css, d0, ds, rfl, rfl, ⟨p0, h0⟩, he⟩ := each_cons he
  obtain ⟨c1, css, d1, ds, rfl, rfl, ⟨p1, h1⟩, he⟩ := each_cons he
  obtain ⟨c2, css, d2, ds, rfl, rfl, ⟨p2, h2⟩, he⟩ := each_cons he
  obtain ⟨c3, css, d3, ds, rfl, rfl, ⟨p3, h3⟩, he⟩ := each_cons he
  obtain ⟨rfl, rfl⟩ := each_nil he
  obtain ⟨i0, t0, e0, _⟩ := tell_int Try.underlying3 h0
  obtain ⟨i1, t1, e1, _⟩ := tell_int Try.underlying3 h1
  obtain ⟨i2, t2, e2, _⟩ := tell_int Try.underlying3 h2
  obtain ⟨i3, t3, _⟩ := tell_val _ _ _ h3
  refine ⟨Fut.of i0 i1 i2 i3, ?_, by simp [Fut.of, Fut.av]; kernel_rfl, trivial⟩
  have := t0.app (t1.app (t2.app t3))
  simpa [Fut.of, Fut.av] using this
theorem tell_futs {v : Value} {d : DataW H} {p : List MemPlace} (h : DataW.Trod enc Try.prog w 0 (fun _ => true) true 22 v d p) : ∃ fs : List Fut, Tell w [futs fs] v.cells.toList := by
  obtain ⟨n, h⟩ := h
  obtain ⟨fs, a, _⟩ := tell_slice Try.underlying22 (by decide +kernel) Fut.av (fun _ _ => True) h (fun m _ cs x hx => tell_fut hx)
  exact ⟨fs, a⟩
theorem tell_ints {v : Value} {d : DataW H} {p : List MemPlace} (h : DataW.Trod enc Try.prog w 0 (fun _ => true) true 23 v d p) : ∃ xs : List Int, Tell w [ints xs] v.cells.toList := by
  obtain ⟨n, h⟩ := h
  obtain ⟨xs, a, _⟩ := tell_slice Try.underlying23 (by decide +kernel) (AV.int .i64) (fun _ _ => True) h (fun m _ cs x hx => by
    obtain ⟨i, a, _⟩ := tell_int Try.underlying3 hx
    exact ⟨i, a, by kernel_rfl, trivial⟩)
  exact ⟨xs, a⟩
end
end Go.Proofs.Ytnjdjahcepakgaa
