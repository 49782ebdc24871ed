/- Chapter 19, replay repeats the decisions of live calls: the law in plain terms. -/
import Derived.Test.YtlnhmlffhjmmiaaS4

set_option linter.unusedSimpArgs false
set_option linter.unusedVariables false
namespace Go.Proofs.Ytlnhmlffhjmmiaa
open Go Go.Amb Go.IntWalk

def recE (nm : ByteArray) : Val → Event
  | .mk k n t is ks => ⟨0, 18, 0, 0, 0, -1, 0, nm, ⟨#[]⟩, k, n, t, is, ks, ⟨#[]⟩, 0, 0, 0, 0, 0, 0, 0, 0, []⟩
def verE (nm : ByteArray) (n : Int) : Event := ⟨0, 18, 0, 0, 0, n, 0, nm, ⟨#[]⟩, 0, 0, ⟨#[]⟩, [], [], ⟨#[]⟩, 0, 0, 0, 0, 0, 0, 0, 0, []⟩
def recP (nm : ByteArray) : Val → Patch
  | .mk k n t is ks => ⟨1, nm, 0, k, n, t, is, ks⟩
theorem ofP_rec (nm : ByteArray) (v : Val) : ofP (recE nm v) = some (recP nm v) := by cases v; simp [ofP, recE, recP]
theorem ofP_ver (nm : ByteArray) {n : Int} (h : 0 ≤ n) : ofP (verE nm n) = some (newP nm n) := by simp [ofP, verE, newP, h]
def headV : List Val → Val
  | [] => .mk 0 0 ⟨#[]⟩ [] []
  | v :: _ => v
def and3 (c : Int) : Int := IntKind.i64.wrap (((c % 2 ^ IntKind.i64.bits).toNat &&& 3 % 2 ^ IntKind.i64.bits : Nat) : Int)
theorem and3_in (c : Int) : 0 ≤ and3 c ∧ and3 c ≤ 3 := by
  have h3 : ((c % 2 ^ IntKind.i64.bits).toNat &&& 3 % 2 ^ IntKind.i64.bits) ≤ 3 := Nat.le_trans Nat.and_le_right (Nat.mod_le _ _)
  unfold and3
  generalize ((c % 2 ^ IntKind.i64.bits).toNat &&& 3 % 2 ^ IntKind.i64.bits) = a at h3
  rw [show IntKind.i64.wrap (a : Int) = a from i64_in _ ⟨by omega, by omega⟩]
  omega
structure LS where
  live : List Patch
  offers : List Val
  evts : List Event
  vers : List Int
  vals : List Val
def stepL (s : LS) (nm : ByteArray) (c : Int) : LS :=
  if c = -1 then ⟨s.live, s.offers.tail, s.evts ++ [recE nm (headV s.offers)], s.vers, s.vals ++ [headV s.offers]⟩
  else match s.live.findIdx? (isP 0 nm) with
    | some _ => ⟨s.live, s.offers, s.evts, s.vers ++ [findN s.live nm], s.vals⟩
    | none => ⟨s.live ++ [newP nm (and3 c)], s.offers, s.evts ++ [verE nm (and3 c)], s.vers ++ [and3 c], s.vals⟩
def nameAt (names : List ByteArray) (i : Nat) : ByteArray := names.getD (i % names.length) ⟨#[]⟩
def lsI (names : List ByteArray) (cs : List Int) (offers : List Val) : Nat → LS
  | 0 => ⟨[], offers, [], [], []⟩
  | i + 1 => stepL (lsI names cs offers i) (nameAt names i) (cs.getD i 0)
section
variable {names : List ByteArray} {cs : List Int} {offers : List Val}
def LS.pats (s : LS) : List Patch := s.evts.filterMap ofP
structure LOk (s : LS) (i : Nat) : Prop where
  live : ∀ p ∈ s.live, p.ok
  offers : okvs s.offers
  evts : ∀ e ∈ s.evts, e.ok
  vals : okvs s.vals
  l1 : s.live.length ≤ i
  l2 : s.evts.length ≤ i
  l3 : s.vers.length ≤ i
  l4 : s.vals.length ≤ i
  pl : s.pats.length ≤ i
  pk : ∀ p ∈ s.pats, p.ok
theorem okvs_app : ∀ {a b : List Val}, okvs a → okvs b → okvs (a ++ b)
  | [], _, _, h => h
  | _ :: _, _, h, h' => ⟨h.1, okvs_app h.2 h'⟩
theorem headV_ok {l : List Val} (h : okvs l) : (headV l).okv := by
  cases l with
  | nil => simp [headV, Val.okv, okvs]
  | cons v vs => exact h.1
theorem tail_ok {l : List Val} (h : okvs l) : okvs l.tail := by
  cases l with
  | nil => exact trivial
  | cons v vs => exact h.2
theorem recE_ok {nm : ByteArray} {v : Val} (h : v.okv) : (recE nm v).ok := by cases v; exact h
theorem verE_ok (nm : ByteArray) (n : Int) : (verE nm n).ok := by simp [Event.ok, verE, Val.okv, okvs]
theorem tail_len {α : Type} (l : List α) : l.tail.length ≤ l.length := by simp
theorem stepL_ok {s : LS} {i : Nat} (h : LOk s i) (nm : ByteArray) (c : Int) : LOk (stepL s nm c) (i + 1) := by
  have h1 := h.l1
  have h2 := h.l2
  have h3 := h.l3
  have h4 := h.l4
  have hv := headV_ok h.offers
  have hE : ∀ e' : Event, e'.ok → ∀ e ∈ s.evts ++ [e'], e.ok := fun e' he' e he => by
    rcases List.mem_append.1 he with he | he
    · exact h.evts e he
    · simp at he; subst he; exact he'
  have mk : ∀ s' : LS, (∀ p ∈ s'.live, p.ok) → okvs s'.offers → (∀ e ∈ s'.evts, e.ok) → okvs s'.vals → s'.live.length ≤ i + 1 → s'.evts.length ≤ i + 1 → s'.vers.length ≤ i + 1 → s'.vals.length ≤ i + 1 → LOk s' (i + 1) := fun s' a b c d e f g k =>
    ⟨a, b, c, d, e, f, g, k, Nat.le_trans (List.length_filterMap_le _ _) f, of_ok c⟩
  unfold stepL
  split
  · exact mk _ h.live (tail_ok h.offers) (hE _ (recE_ok hv)) (okvs_app h.vals ⟨hv, trivial⟩) (by dsimp only; omega) (by simp; omega) (by dsimp only; omega) (by simp; omega)
  · split
    · exact mk _ h.live h.offers h.evts h.vals (by dsimp only; omega) (by dsimp only; omega) (by simp; omega) (by dsimp only; omega)
    · refine mk _ (fun p hp => ?_) h.offers (hE _ (verE_ok _ _)) h.vals (by simp; omega) (by simp; omega) (by simp; omega) (by dsimp only; omega)
      rcases List.mem_append.1 hp with hp | hp
      · exact h.live p hp
      · simp at hp; subst hp; exact newP_ok _ _
theorem lsI_ok (h : okvs offers) : ∀ i, LOk (lsI names cs offers i) i
  | 0 => ⟨by simp [lsI], h, by simp [lsI], trivial, by simp [lsI], by simp [lsI], by simp [lsI], by simp [lsI], by simp [lsI, LS.pats], by simp [lsI, LS.pats]⟩
  | i + 1 => stepL_ok (lsI_ok h i) _ _
theorem lsI_offers (i : Nat) : (lsI names cs offers i).offers.length ≤ offers.length := by
  induction i with
  | zero => exact Nat.le_refl _
  | succ i ih =>
    refine Nat.le_trans ?_ ih
    simp only [lsI, stepL]
    split
    · simp
    · split <;> exact Nat.le_refl _
theorem stepL_pre (s : LS) (nm : ByteArray) (c : Int) : (∃ P, (stepL s nm c).pats = s.pats ++ P) ∧ ∃ V, (stepL s nm c).vers = s.vers ++ V := by
  unfold stepL LS.pats
  split
  · exact ⟨⟨_, List.filterMap_append ..⟩, [], by simp⟩
  · split
    · exact ⟨⟨[], by simp⟩, _, rfl⟩
    · exact ⟨⟨_, List.filterMap_append ..⟩, _, rfl⟩
theorem lsI_pre (i : Nat) : ∀ k, (∃ P, (lsI names cs offers (i + k)).pats = (lsI names cs offers i).pats ++ P) ∧ ∃ V, (lsI names cs offers (i + k)).vers = (lsI names cs offers i).vers ++ V
  | 0 => ⟨⟨[], by simp⟩, [], by simp⟩
  | k + 1 => by
    obtain ⟨⟨P, hP⟩, V, hV⟩ := lsI_pre i k
    obtain ⟨⟨P', hP'⟩, V', hV'⟩ := stepL_pre (lsI names cs offers (i + k)) (nameAt names (i + k)) (cs.getD (i + k) 0)
    refine ⟨⟨P ++ P', ?_⟩, V ++ V', ?_⟩
    · show (stepL (lsI names cs offers (i + k)) (nameAt names (i + k)) (cs.getD (i + k) 0)).pats = _
      rw [hP', hP, List.append_assoc]
    · show (stepL (lsI names cs offers (i + k)) (nameAt names (i + k)) (cs.getD (i + k) 0)).vers = _
      rw [hV', hV, List.append_assoc]
/-- What is still to be replayed. -/
def Left (names : List ByteArray) (cs : List Int) (offers : List Val) (i : Nat) (Q : List Patch) : Prop := (lsI names cs offers i).pats ++ Q = (lsI names cs offers cs.length).pats
theorem left_rec {i : Nat} {Q : List Patch} (h : Left names cs offers i Q) (hi : i < cs.length) (hc : cs.getD i 0 = -1) :
    ∃ Q', Q = recP (nameAt names i) (headV (lsI names cs offers i).offers) :: Q' ∧ Left names cs offers (i + 1) Q' ∧ (lsI names cs offers (i + 1)).live = (lsI names cs offers i).live ∧ (lsI names cs offers (i + 1)).vers = (lsI names cs offers i).vers ∧
      (lsI names cs offers (i + 1)).vals = (lsI names cs offers i).vals ++ [headV (lsI names cs offers i).offers] := by
  have hs : lsI names cs offers (i + 1) = stepL (lsI names cs offers i) (nameAt names i) (-1) := by rw [← hc]; rfl
  obtain ⟨⟨P, hP⟩, -⟩ := lsI_pre (names := names) (cs := cs) (offers := offers) (i + 1) (cs.length - (i + 1))
  rw [show i + 1 + (cs.length - (i + 1)) = cs.length by omega] at hP
  have hp : (lsI names cs offers (i + 1)).pats = (lsI names cs offers i).pats ++ [recP (nameAt names i) (headV (lsI names cs offers i).offers)] := by
    rw [hs]
    simp [stepL, LS.pats, ofP_rec]
  unfold Left at h
  rw [hP, hp, List.append_assoc] at h
  have hq := List.append_cancel_left h
  refine ⟨P, by simpa using hq, hP.symm, ?_, ?_, ?_⟩ <;> rw [hs] <;> simp [stepL]
theorem left_ver {i : Nat} {Q : List Patch} (h : Left names cs offers i Q) (hi : i < cs.length) (hc : ¬ cs.getD i 0 = -1) :
    ∃ Q' n b, ver (lsI names cs offers i).live Q (nameAt names i) 0 true = (n, (lsI names cs offers (i + 1)).live, Q', b) ∧ Left names cs offers (i + 1) Q' ∧ (lsI names cs offers (i + 1)).vers = (lsI names cs offers i).vers ++ [n] ∧
      (lsI names cs offers (i + 1)).vals = (lsI names cs offers i).vals ∧ (lsI names cs offers cs.length).vers[(lsI names cs offers i).vers.length]? = some n := by
  have hs : lsI names cs offers (i + 1) = stepL (lsI names cs offers i) (nameAt names i) (cs.getD i 0) := rfl
  obtain ⟨⟨P, hP⟩, V, hV⟩ := lsI_pre (names := names) (cs := cs) (offers := offers) (i + 1) (cs.length - (i + 1))
  rw [show i + 1 + (cs.length - (i + 1)) = cs.length by omega] at hP hV
  have hvers : ∀ n, (lsI names cs offers (i + 1)).vers = (lsI names cs offers i).vers ++ [n] → (lsI names cs offers cs.length).vers[(lsI names cs offers i).vers.length]? = some n := fun n hn => by
    rw [hV, hn, List.append_assoc]
    simp
  cases hf : (lsI names cs offers i).live.findIdx? (isP 0 (nameAt names i)) with
  | some k =>
    have e : lsI names cs offers (i + 1) = ⟨(lsI names cs offers i).live, (lsI names cs offers i).offers, (lsI names cs offers i).evts, (lsI names cs offers i).vers ++ [findN (lsI names cs offers i).live (nameAt names i)], (lsI names cs offers i).vals⟩ := by
      rw [hs, stepL, if_neg hc, hf]
    refine ⟨Q, findN (lsI names cs offers i).live (nameAt names i), false, ?_, ?_, by rw [e], by rw [e], hvers _ (by rw [e])⟩
    · simp only [ver, hf, e]
    · unfold Left at h ⊢
      rw [← h, e]
      rfl
  | none =>
    have e : lsI names cs offers (i + 1) = ⟨(lsI names cs offers i).live ++ [newP (nameAt names i) (and3 (cs.getD i 0))], (lsI names cs offers i).offers, (lsI names cs offers i).evts ++ [verE (nameAt names i) (and3 (cs.getD i 0))], (lsI names cs offers i).vers ++ [and3 (cs.getD i 0)], (lsI names cs offers i).vals⟩ := by
      rw [hs, stepL, if_neg hc, hf]
    have hp : (lsI names cs offers (i + 1)).pats = (lsI names cs offers i).pats ++ [newP (nameAt names i) (and3 (cs.getD i 0))] := by
      rw [e]
      simp [LS.pats, ofP_ver _ (and3_in _).1]
    unfold Left at h
    rw [hP, hp, List.append_assoc] at h
    have hq := List.append_cancel_left h
    have hq' : Q = newP (nameAt names i) (and3 (cs.getD i 0)) :: P := by simpa using hq
    have h0 : Q.findIdx? (isP 0 (nameAt names i)) = some 0 := by rw [hq']; simp [List.findIdx?_cons, isP, newP]
    have hn : findN Q (nameAt names i) = and3 (cs.getD i 0) := by simp only [findN, h0]; rw [hq']; rfl
    refine ⟨P, and3 (cs.getD i 0), true, ?_, hP.symm, by rw [e], by rw [e], hvers _ (by rw [e])⟩
    simp only [ver, hf, if_true, h0, hn, e]
    rw [hq']
    simp
end
end Go.Proofs.Ytlnhmlffhjmmiaa

set_option linter.unusedSimpArgs false
set_option linter.unusedVariables false
set_option maxHeartbeats 8000000
namespace Go.Proofs.Ytlnhmlffhjmmiaa
open Go Go.Amb Go.IntWalk

def ints (l : List Int) : List AV := l.map (.int .i64)
@[simp] theorem ints_length (l : List Int) : (ints l).length = l.length := by simp [ints]
theorem ints_app (l : List Int) (a : Int) : ints l ++ [.int .i64 a] = ints (l ++ [a]) := by simp [ints]
theorem ints_at {l : List Int} {i : Nat} {a : Int} (h : l[i]? = some a) : elemAt (ints l) i = .int .i64 a := elem_map h
def evr (l : List Event) : List AV := l.map Event.av
@[simp] theorem evr_length (l : List Event) : (evr l).length = l.length := by simp [evr]
theorem evr_cl (l : List Event) : (evr l).map clC = l.map Event.av := by simp [evr, Function.comp_def]
theorem evr_rec (l : List Event) (nm : ByteArray) (k n : Int) (t : ByteArray) (is : List Val) (ks : List ByteArray) : evr l ++ [.agg [.int .i64 0, .int .i64 18, .int .i64 0, .int .i64 0, .int .i64 0, .int .i64 (-1), .int .i64 0, .str nm, .str ⟨#[]⟩, .int .i64 k, .int .i64 n, .str t, .sl .fro (avs is), .sl .fro (ks.map .str), .str ⟨#[]⟩, .int .i64 0, .int .i64 0, .int .i64 0, .int .i64 0, .int .i64 0, .int .i64 0, .int .i64 0, .int .i64 0, .sl .fro []]] = evr (l ++ [recE nm (.mk k n t is ks)]) := by
  simp [evr, recE, Event.av]
theorem evr_ver (l : List Event) (nm : ByteArray) (n : Int) : evr l ++ [.agg [.int .i64 0, .int .i64 18, .int .i64 0, .int .i64 0, .int .i64 0, .int .i64 n, .int .i64 0, .str nm, .str ⟨#[]⟩, .int .i64 0, .int .i64 0, .str ⟨#[]⟩, .sl .fro [], .sl .fro [], .str ⟨#[]⟩, .int .i64 0, .int .i64 0, .int .i64 0, .int .i64 0, .int .i64 0, .int .i64 0, .int .i64 0, .int .i64 0, .sl .fro []]] = evr (l ++ [verE nm n]) := by
  simp [evr, verE, Event.av, avs]
theorem avs_app (l : List Val) (k n : Int) (t : ByteArray) (is : List Val) (ks : List ByteArray) : avs l ++ [.agg [.int .i64 k, .int .i64 n, .str t, .sl .fro (avs is), .sl .fro (ks.map .str)]] = avs (l ++ [.mk k n t is ks]) := by
  simp [avs_append, avs, Val.av]
theorem name_at {names : List ByteArray} (h : 0 < names.length) (i : Nat) : ∃ q : Nat, (i : Int).tmod (names.length : Int) = (q : Int) ∧ q < names.length ∧ elemAt (names.map .str) q = .str (nameAt names i) := by
  have hq : i % names.length < names.length := Nat.mod_lt _ h
  refine ⟨i % names.length, by rw [Int.tmod_eq_emod_of_nonneg (by omega)]; rfl, hq, ?_⟩
  have := List.getElem?_eq_getElem hq
  rw [elem_map this]
  simp [nameAt, List.getD_eq_getElem?_getD, this]
theorem rec_live (offers : List Val) (nm : ByteArray) : clC (recR (.own 8) [] offers nm false) = .tup [(headV offers).av, .sl .fro [], .sl .fro (avs offers.tail), .int .i64 0] := by
  cases offers with
  | nil => simp [recR, headV, Val.av, avs]
  | cons v vs => simp [recR, headV]
theorem rec_replay (Q : List Patch) (nm : ByteArray) (v : Val) : clC (recR (.own 8) (recP nm v :: Q) [] nm true) = .tup [v.av, pat Q, .sl .fro [], .int .i64 0] := by
  have h0 : (recP nm v :: Q).findIdx? (isP 1 nm) = some 0 := by cases v; simp [List.findIdx?_cons, isP, recP]
  have hv : (recP nm v).val = v := by cases v; rfl
  unfold recR
  rw [if_pos rfl, h0]
  simp only [List.getElem?_cons_zero]
  have := clC_av v
  rw [← hv] at this
  simp [hv, Function.comp_def, avs]
theorem f7 (names : List ByteArray) (cs : List Int) (offers : List Val) (hok : okvs offers) (hl1 : names.length ≤ 9223372036854775807) (hl2 : cs.length ≤ 9223372036854775807) (hl3 : offers.length * 80 ≤ 140737488355328) :
    ACall Try.prog 7 [.sl .fro (names.map .str), .sl .fro (ints cs), .sl .fro (avs offers)] (· = .bool true) := by
  have h15 := f15 (.mk 0 0 ⟨#[]⟩ offers []) ⟨hl3, by simp, hok⟩
  simp only [Val.av, List.map_nil] at h15
  refine a7_of (by simp) ?_
  repeat refine AW.seq ?_
  refine AW.reg ?_
  have hF := True.intro
  repeat (first | refine wD1 ?_ | refine wD2 ?_ | refine wE1 ?_ | refine wE2 ?_ | (refine wE3 ?_; intro _) | (refine wE4 ?_; intro _) | refine wN ?_ | ((with_reducible show evIs _ (_ :: _) _ _); first | refine wQ ?_ | refine wF ?_ | refine wG ?_ | refine wT ?_ | refine wM ?_ | refine wS ?_ | refine wP ?_ | refine wJ ?_ | refine wX ?_ | refine wY ?_))
  clear hF
  repeat refine evDone ?_
  try (show AW _ _ _ _ _)
  repeat refine AW.seq ?_
  refine AW.reg ?_
  by_cases hn0 : names.length = 0
  · have hnil : names = [] := List.length_eq_zero_iff.1 hn0
    subst hnil
    have hF := True.intro
    repeat (first | refine wD1 ?_ | refine wD2 ?_ | refine wE1 ?_ | refine wE2 ?_ | (refine wE3 ?_; intro _) | (refine wE4 ?_; intro _) | refine wN ?_ | ((with_reducible show evIs _ (_ :: _) _ _); first | refine wQ ?_ | refine wF ?_ | refine wG ?_ | refine wT ?_ | refine wM ?_ | refine wS ?_ | refine wP ?_ | refine wJ ?_ | refine wX ?_ | refine wY ?_))
    clear hF
    repeat refine evDone ?_
    try (show AW _ _ _ _ _)
    repeat refine AW.seq ?_
    refine AW.condT (by simp []) (by simp []) ?_
    repeat refine AW.seq ?_
    refine AW.reg ?_
    have hF := True.intro
    repeat (first | refine wD1 ?_ | refine wD2 ?_ | refine wE1 ?_ | refine wE2 ?_ | (refine wE3 ?_; intro _) | (refine wE4 ?_; intro _) | refine wN ?_ | ((with_reducible show evIs _ (_ :: _) _ _); first | refine wQ ?_ | refine wF ?_ | refine wG ?_ | refine wT ?_ | refine wM ?_ | refine wS ?_ | refine wP ?_ | refine wJ ?_ | refine wX ?_ | refine wY ?_))
    clear hF
    repeat refine evDone ?_
    try (show AW _ _ _ _ _)
    have hF := True.intro
    refine wC (hA := works) ?_
    clear hF
    have hF := True.intro
    repeat (first | refine wD1 ?_ | refine wD2 ?_ | refine wE1 ?_ | refine wE2 ?_ | (refine wE3 ?_; intro _) | (refine wE4 ?_; intro _) | refine wN ?_ | ((with_reducible show evIs _ (_ :: _) _ _); first | refine wQ ?_ | refine wF ?_ | refine wG ?_ | refine wT ?_ | refine wM ?_ | refine wS ?_ | refine wP ?_ | refine wJ ?_ | refine wX ?_ | refine wY ?_))
    clear hF
    repeat refine evDone ?_
    try (show AW _ _ _ _ _)
    refine AW.ret (retI rfl ?_)
    simp [a7_res, resOk, resP, resV, ARes.op, R2s, R2, R1s, R1, closeOk, closeV]
  have hn1 : ¬ names = [] := by intro e; subst e; exact hn0 rfl
  have hn2 : ¬ (names.length : Int) = 0 := by omega
  by_cases h30 : 30 < (cs.length : Int)
  · have hF := And.intro (hn0) (And.intro (hn1) (And.intro (hn2) (h30)))
    repeat (first | refine wD1 ?_ | refine wD2 ?_ | refine wE1 ?_ | refine wE2 ?_ | (refine wE3 ?_; intro _) | (refine wE4 ?_; intro _) | refine wN ?_ | ((with_reducible show evIs _ (_ :: _) _ _); first | refine wQ ?_ | refine wF ?_ | refine wG ?_ | refine wT ?_ | refine wM ?_ | refine wS ?_ | refine wP ?_ | refine wJ ?_ | refine wX ?_ | refine wY ?_))
    clear hF
    repeat refine evDone ?_
    try (show AW _ _ _ _ _)
    repeat refine AW.seq ?_
    refine AW.condT (by simp [hn0, hn1, hn2, h30]) (by simp [hn0, hn1, hn2, h30]) ?_
    repeat refine AW.seq ?_
    refine AW.reg ?_
    have hF := True.intro
    repeat (first | refine wD1 ?_ | refine wD2 ?_ | refine wE1 ?_ | refine wE2 ?_ | (refine wE3 ?_; intro _) | (refine wE4 ?_; intro _) | refine wN ?_ | ((with_reducible show evIs _ (_ :: _) _ _); first | refine wQ ?_ | refine wF ?_ | refine wG ?_ | refine wT ?_ | refine wM ?_ | refine wS ?_ | refine wP ?_ | refine wJ ?_ | refine wX ?_ | refine wY ?_))
    clear hF
    repeat refine evDone ?_
    try (show AW _ _ _ _ _)
    have hF := True.intro
    refine wC (hA := works) ?_
    clear hF
    have hF := True.intro
    repeat (first | refine wD1 ?_ | refine wD2 ?_ | refine wE1 ?_ | refine wE2 ?_ | (refine wE3 ?_; intro _) | (refine wE4 ?_; intro _) | refine wN ?_ | ((with_reducible show evIs _ (_ :: _) _ _); first | refine wQ ?_ | refine wF ?_ | refine wG ?_ | refine wT ?_ | refine wM ?_ | refine wS ?_ | refine wP ?_ | refine wJ ?_ | refine wX ?_ | refine wY ?_))
    clear hF
    repeat refine evDone ?_
    try (show AW _ _ _ _ _)
    refine AW.ret (retI rfl ?_)
    simp [a7_res, resOk, resP, resV, ARes.op, R2s, R2, R1s, R1, closeOk, closeV]
  by_cases h31 : 30 < (offers.length : Int)
  · have hF := And.intro (hn0) (And.intro (hn1) (And.intro (hn2) (And.intro (h30) (h31))))
    repeat (first | refine wD1 ?_ | refine wD2 ?_ | refine wE1 ?_ | refine wE2 ?_ | (refine wE3 ?_; intro _) | (refine wE4 ?_; intro _) | refine wN ?_ | ((with_reducible show evIs _ (_ :: _) _ _); first | refine wQ ?_ | refine wF ?_ | refine wG ?_ | refine wT ?_ | refine wM ?_ | refine wS ?_ | refine wP ?_ | refine wJ ?_ | refine wX ?_ | refine wY ?_))
    clear hF
    repeat refine evDone ?_
    try (show AW _ _ _ _ _)
    repeat refine AW.seq ?_
    refine AW.condT (by simp [hn0, hn1, hn2, h30, h31]) (by simp [hn0, hn1, hn2, h30, h31]) ?_
    repeat refine AW.seq ?_
    refine AW.reg ?_
    have hF := True.intro
    repeat (first | refine wD1 ?_ | refine wD2 ?_ | refine wE1 ?_ | refine wE2 ?_ | (refine wE3 ?_; intro _) | (refine wE4 ?_; intro _) | refine wN ?_ | ((with_reducible show evIs _ (_ :: _) _ _); first | refine wQ ?_ | refine wF ?_ | refine wG ?_ | refine wT ?_ | refine wM ?_ | refine wS ?_ | refine wP ?_ | refine wJ ?_ | refine wX ?_ | refine wY ?_))
    clear hF
    repeat refine evDone ?_
    try (show AW _ _ _ _ _)
    have hF := True.intro
    refine wC (hA := works) ?_
    clear hF
    have hF := True.intro
    repeat (first | refine wD1 ?_ | refine wD2 ?_ | refine wE1 ?_ | refine wE2 ?_ | (refine wE3 ?_; intro _) | (refine wE4 ?_; intro _) | refine wN ?_ | ((with_reducible show evIs _ (_ :: _) _ _); first | refine wQ ?_ | refine wF ?_ | refine wG ?_ | refine wT ?_ | refine wM ?_ | refine wS ?_ | refine wP ?_ | refine wJ ?_ | refine wX ?_ | refine wY ?_))
    clear hF
    repeat refine evDone ?_
    try (show AW _ _ _ _ _)
    refine AW.ret (retI rfl ?_)
    simp [a7_res, resOk, resP, resV, ARes.op, R2s, R2, R1s, R1, closeOk, closeV]
  have hF := And.intro (hn0) (And.intro (hn1) (And.intro (hn2) (And.intro (h30) (h31))))
  repeat (first | refine wD1 ?_ | refine wD2 ?_ | refine wE1 ?_ | refine wE2 ?_ | (refine wE3 ?_; intro _) | (refine wE4 ?_; intro _) | refine wN ?_ | ((with_reducible show evIs _ (_ :: _) _ _); first | refine wQ ?_ | refine wF ?_ | refine wG ?_ | refine wT ?_ | refine wM ?_ | refine wS ?_ | refine wP ?_ | refine wJ ?_ | refine wX ?_ | refine wY ?_))
  clear hF
  repeat refine evDone ?_
  try (show AW _ _ _ _ _)
  have hF := And.intro (hn0) (And.intro (hn1) (And.intro (hn2) (And.intro (h30) (h31))))
  refine wI (hA := h15) ?_
  clear hF
  intro b2 _
  by_cases h300 : 300 < b2
  · have hF := And.intro (hn0) (And.intro (hn1) (And.intro (hn2) (And.intro (h30) (And.intro (h31) (h300)))))
    repeat (first | refine wD1 ?_ | refine wD2 ?_ | refine wE1 ?_ | refine wE2 ?_ | (refine wE3 ?_; intro _) | (refine wE4 ?_; intro _) | refine wN ?_ | ((with_reducible show evIs _ (_ :: _) _ _); first | refine wQ ?_ | refine wF ?_ | refine wG ?_ | refine wT ?_ | refine wM ?_ | refine wS ?_ | refine wP ?_ | refine wJ ?_ | refine wX ?_ | refine wY ?_))
    clear hF
    repeat refine evDone ?_
    try (show AW _ _ _ _ _)
    repeat refine AW.seq ?_
    refine AW.condT (by simp [hn0, hn1, hn2, h30, h31, h300]) (by simp [hn0, hn1, hn2, h30, h31, h300]) ?_
    repeat refine AW.seq ?_
    refine AW.reg ?_
    have hF := True.intro
    repeat (first | refine wD1 ?_ | refine wD2 ?_ | refine wE1 ?_ | refine wE2 ?_ | (refine wE3 ?_; intro _) | (refine wE4 ?_; intro _) | refine wN ?_ | ((with_reducible show evIs _ (_ :: _) _ _); first | refine wQ ?_ | refine wF ?_ | refine wG ?_ | refine wT ?_ | refine wM ?_ | refine wS ?_ | refine wP ?_ | refine wJ ?_ | refine wX ?_ | refine wY ?_))
    clear hF
    repeat refine evDone ?_
    try (show AW _ _ _ _ _)
    have hF := True.intro
    refine wC (hA := works) ?_
    clear hF
    have hF := True.intro
    repeat (first | refine wD1 ?_ | refine wD2 ?_ | refine wE1 ?_ | refine wE2 ?_ | (refine wE3 ?_; intro _) | (refine wE4 ?_; intro _) | refine wN ?_ | ((with_reducible show evIs _ (_ :: _) _ _); first | refine wQ ?_ | refine wF ?_ | refine wG ?_ | refine wT ?_ | refine wM ?_ | refine wS ?_ | refine wP ?_ | refine wJ ?_ | refine wX ?_ | refine wY ?_))
    clear hF
    repeat refine evDone ?_
    try (show AW _ _ _ _ _)
    refine AW.ret (retI rfl ?_)
    simp [a7_res, resOk, resP, resV, ARes.op, R2s, R2, R1s, R1, closeOk, closeV]
  have hF := And.intro (hn0) (And.intro (hn1) (And.intro (hn2) (And.intro (h30) (And.intro (h31) (h300)))))
  repeat (first | refine wD1 ?_ | refine wD2 ?_ | refine wE1 ?_ | refine wE2 ?_ | (refine wE3 ?_; intro _) | (refine wE4 ?_; intro _) | refine wN ?_ | ((with_reducible show evIs _ (_ :: _) _ _); first | refine wQ ?_ | refine wF ?_ | refine wG ?_ | refine wT ?_ | refine wM ?_ | refine wS ?_ | refine wP ?_ | refine wJ ?_ | refine wX ?_ | refine wY ?_))
  clear hF
  repeat refine evDone ?_
  try (show AW _ _ _ _ _)
  repeat refine AW.seq ?_
  refine AW.condF (by simp [hn0, hn1, hn2, h30, h31, h300]) (by simp [hn0, hn1, hn2, h30, h31, h300]) ?_
  refine AW.skip ?_
  show AW _ _ _ _ _
  repeat refine AW.seq ?_
  refine AW.reg ?_
  have hF := True.intro
  repeat (first | refine wD1 ?_ | refine wD2 ?_ | refine wE1 ?_ | refine wE2 ?_ | (refine wE3 ?_; intro _) | (refine wE4 ?_; intro _) | refine wN ?_ | ((with_reducible show evIs _ (_ :: _) _ _); first | refine wQ ?_ | refine wF ?_ | refine wG ?_ | refine wT ?_ | refine wM ?_ | refine wS ?_ | refine wP ?_ | refine wJ ?_ | refine wX ?_ | refine wY ?_))
  clear hF
  repeat refine evDone ?_
  try (show AW _ _ _ _ _)
  repeat refine AW.seq ?_
  refine AW.reg ?_
  have hF := True.intro
  repeat (first | refine wD1 ?_ | refine wD2 ?_ | refine wE1 ?_ | refine wE2 ?_ | (refine wE3 ?_; intro _) | (refine wE4 ?_; intro _) | refine wN ?_ | ((with_reducible show evIs _ (_ :: _) _ _); first | refine wQ ?_ | refine wF ?_ | refine wG ?_ | refine wT ?_ | refine wM ?_ | refine wS ?_ | refine wP ?_ | refine wJ ?_ | refine wX ?_ | refine wY ?_))
  clear hF
  repeat refine evDone ?_
  try (show AW _ _ _ _ _)
  repeat refine AW.seq ?_
  refine AW.reg ?_
  have hF := True.intro
  repeat (first | refine wD1 ?_ | refine wD2 ?_ | refine wE1 ?_ | refine wE2 ?_ | (refine wE3 ?_; intro _) | (refine wE4 ?_; intro _) | refine wN ?_ | ((with_reducible show evIs _ (_ :: _) _ _); first | refine wQ ?_ | refine wF ?_ | refine wG ?_ | refine wT ?_ | refine wM ?_ | refine wS ?_ | refine wP ?_ | refine wJ ?_ | refine wX ?_ | refine wY ?_))
  clear hF
  repeat refine evDone ?_
  try (show AW _ _ _ _ _)
  repeat refine AW.seq ?_
  refine AW.reg ?_
  have hF := True.intro
  repeat (first | refine wD1 ?_ | refine wD2 ?_ | refine wE1 ?_ | refine wE2 ?_ | (refine wE3 ?_; intro _) | (refine wE4 ?_; intro _) | refine wN ?_ | ((with_reducible show evIs _ (_ :: _) _ _); first | refine wQ ?_ | refine wF ?_ | refine wG ?_ | refine wT ?_ | refine wM ?_ | refine wS ?_ | refine wP ?_ | refine wJ ?_ | refine wX ?_ | refine wY ?_))
  clear hF
  repeat refine evDone ?_
  try (show AW _ _ _ _ _)
  repeat refine AW.seq ?_
  refine AW.reg ?_
  have hF := True.intro
  repeat (first | refine wD1 ?_ | refine wD2 ?_ | refine wE1 ?_ | refine wE2 ?_ | (refine wE3 ?_; intro _) | (refine wE4 ?_; intro _) | refine wN ?_ | ((with_reducible show evIs _ (_ :: _) _ _); first | refine wQ ?_ | refine wF ?_ | refine wG ?_ | refine wT ?_ | refine wM ?_ | refine wS ?_ | refine wP ?_ | refine wJ ?_ | refine wX ?_ | refine wY ?_))
  clear hF
  repeat refine evDone ?_
  try (show AW _ _ _ _ _)
  repeat refine AW.seq ?_
  refine AW.block ?_
  refine AW.loop (fun g : Nat × Nat × Nat × Nat × Nat => g.1 ≤ cs.length ∧ g.2.2.1 < g.2.1 ∧ g.2.2.2.1 < g.2.1 ∧ g.2.2.2.2 < g.2.1 ∧ g.2.2.1 ≠ g.2.2.2.1 ∧ g.2.2.1 ≠ g.2.2.2.2 ∧ g.2.2.2.1 ≠ g.2.2.2.2)
    (fun g => mkS [(0, .sl .fro (names.map .str)), (1, .sl .fro (ints cs)), (2, .sl .fro (avs (lsI names cs offers g.1).offers)), (7, .hdr g.2.2.1 0 (lsI names cs offers g.1).evts.length), (8, pat (lsI names cs offers g.1).live), (9, .sl .ext []), (10, .sl .ext []), (11, .hdr g.2.2.2.1 0 (lsI names cs offers g.1).vals.length), (12, .sl .ext []), (13, .hdr g.2.2.2.2 0 (lsI names cs offers g.1).vers.length), (57, .sl .fro (ints cs)), (58, .int .i64 cs.length), (59, .int .i64 g.1)] [(g.2.2.1, ⟨24, false, evr (lsI names cs offers g.1).evts⟩), (g.2.2.2.1, ⟨5, false, avs (lsI names cs offers g.1).vals⟩), (g.2.2.2.2, ⟨1, false, ints (lsI names cs offers g.1).vers⟩)] g.2.1) (fun g => cs.length - g.1) (0, 20, 10, 11, 12) (by simp) ?_ ?_
  · refine Fit.mk _ _ _ (by simp [lsI, evr, ints, avs, pat, conv2, newEmp, convs_refl, convs, conv]) (by simp [lsI, evr, ints, avs, pat, heapFit, newEmp, conv2s, conv2, convs_refl, convs, conv]) (by intro q hq; first | (simp at hq; done) | (simp at hq; omega) | (simp at hq; simp; omega))
  · rintro ⟨i, n, rE, rV, rN⟩ ⟨hi, hr1, hr2, hr3, hr4, hr5, hr6⟩
    dsimp only at hi hr1 hr2 hr3 hr4 hr5 hr6 ⊢
    have hD : (rE = rV) = False ∧ (rE = rN) = False ∧ (rV = rE) = False ∧ (rV = rN) = False ∧ (rN = rE) = False ∧ (rN = rV) = False := by
      refine ⟨?_, ?_, ?_, ?_, ?_, ?_⟩ <;> exact eq_false (by omega)
    have hN : (∀ k, (rE = n + k) = False) ∧ (∀ k, (n + k = rE) = False) ∧ (∀ k, (rV = n + k) = False) ∧ (∀ k, (n + k = rV) = False) ∧ (∀ k, (rN = n + k) = False) ∧ (∀ k, (n + k = rN) = False) ∧ (∀ k, (n + k < n) = False) := by
      refine ⟨?_, ?_, ?_, ?_, ?_, ?_, ?_⟩ <;> exact fun k => eq_false (by omega)
    have hL : (∀ k, rE < n + k) ∧ (∀ k, rV < n + k) ∧ (∀ k, rN < n + k) := by
      refine ⟨?_, ?_, ?_⟩ <;> exact fun k => by omega
    have hB : rE < n ∧ rV < n ∧ rN < n := by refine ⟨?_, ?_, ?_⟩ <;> omega
    have hLo := lsI_ok (names := names) (cs := cs) hok i
    have hof := lsI_offers (names := names) (cs := cs) (offers := offers) i
    repeat refine AW.seq ?_
    refine AW.reg ?_
    by_cases hlt : i < cs.length
    · have hst : lsI names cs offers (i + 1) = stepL (lsI names cs offers i) (nameAt names i) (cs.getD i 0) := rfl
      obtain ⟨q, hq1, hq2, hq3⟩ := name_at (names := names) (by omega) i
      have hq4 : (0 : Int) ≤ (q : Int) := by omega
      have hq5 : (q : Int) < names.length := by omega
      obtain ⟨c, hc⟩ : ∃ c, cs[i]? = some c := ⟨_, List.getElem?_eq_getElem hlt⟩
      have hcd : cs.getD i 0 = c := by simp [hc]
      rw [hcd] at hst
      have hec := ints_at hc
      have hw : IntKind.i64.wrap ((i : Int) + 1) = (i : Int) + 1 := i64_in _ ⟨by omega, by omega⟩
      generalize hLi : lsI names cs offers i = L at hLo hof hst ⊢
      generalize hnm : nameAt names i = nm at hst hq3
      obtain ⟨live, off, evts, vers, vals⟩ := L
      obtain ⟨ok1, ok2, ok3, ok4, l1, l2, l3, l4, pl, pk⟩ := hLo
      dsimp only at ok1 ok2 ok3 ok4 l1 l2 l3 l4 hof ⊢
      have hF := hlt
      repeat (first | refine wD1 ?_ | refine wD2 ?_ | refine wE1 ?_ | refine wE2 ?_ | (refine wE3 ?_; intro _) | (refine wE4 ?_; intro _) | refine wN ?_ | ((with_reducible show evIs _ (_ :: _) _ _); first | refine wQ ?_ | refine wF ?_ | refine wG ?_ | refine wT ?_ | refine wM ?_ | refine wS ?_ | refine wP ?_ | refine wJ ?_ | refine wX ?_ | refine wY ?_))
      clear hF
      repeat refine evDone ?_
      try (show AW _ _ _ _ _)
      repeat refine AW.seq ?_
      refine AW.condT (by simp []) (by simp []) ?_
      refine AW.skip ?_
      show AW _ _ _ _ _
      refine AW.seq (AW.block ?_)
      repeat refine AW.seq ?_
      refine AW.reg ?_
      have hF := And.intro (hlt) (hec)
      repeat (first | refine wD1 ?_ | refine wD2 ?_ | refine wE1 ?_ | refine wE2 ?_ | (refine wE3 ?_; intro _) | (refine wE4 ?_; intro _) | refine wN ?_ | ((with_reducible show evIs _ (_ :: _) _ _); first | refine wQ ?_ | refine wF ?_ | refine wG ?_ | refine wT ?_ | refine wM ?_ | refine wS ?_ | refine wP ?_ | refine wJ ?_ | refine wX ?_ | refine wY ?_))
      clear hF
      repeat refine evDone ?_
      try (show AW _ _ _ _ _)
      repeat refine AW.seq ?_
      refine AW.reg ?_
      have hF := And.intro (hq1) (And.intro (hq2) (And.intro (hq3) (And.intro (hq4) (And.intro (hq5) (And.intro (hn0) (And.intro (hn1) (hn2)))))))
      repeat (first | refine wD1 ?_ | refine wD2 ?_ | refine wE1 ?_ | refine wE2 ?_ | (refine wE3 ?_; intro _) | (refine wE4 ?_; intro _) | refine wN ?_ | ((with_reducible show evIs _ (_ :: _) _ _); first | refine wQ ?_ | refine wF ?_ | refine wG ?_ | refine wT ?_ | refine wM ?_ | refine wS ?_ | refine wP ?_ | refine wJ ?_ | refine wX ?_ | refine wY ?_))
      clear hF
      repeat refine evDone ?_
      try (show AW _ _ _ _ _)
      repeat refine AW.seq ?_
      refine AW.reg ?_
      by_cases hcm : c = -1
      · have h16 : ACall Try.prog 16 [.sl .fro [], .sl .fro (avs off), .str nm, .bool false] (· = recR (.own 8) [] off nm false) := f16 [] off nm false (by simp) (by omega) (by simp) ok2
        have hrl := rec_live off nm
        rw [hcm] at hst
        simp only [stepL, if_true] at hst
        generalize headV off = v at hrl hst
        obtain ⟨vk, vn, vt, vi, vs⟩ := v
        simp only [Val.av] at hrl
        generalize recR (.own 8) [] off nm false = A at h16 hrl
        have hy1 : (vals.length + 1) * 80 ≤ 140737488355328 := by omega
        have hy2 : vals.length + 1 ≤ 9223372036854775807 := by omega
        have hy3 : (evts.length + 1) * 272 ≤ 140737488355328 := by omega
        have hy4 : evts.length + 1 ≤ 9223372036854775807 := by omega
        have ha1 := avs_app vals vk vn vt vi vs
        have ha2 := evr_rec evts nm vk vn vt vi vs
        have hF := hcm
        repeat (first | refine wD1 ?_ | refine wD2 ?_ | refine wE1 ?_ | refine wE2 ?_ | (refine wE3 ?_; intro _) | (refine wE4 ?_; intro _) | refine wN ?_ | ((with_reducible show evIs _ (_ :: _) _ _); first | refine wQ ?_ | refine wF ?_ | refine wG ?_ | refine wT ?_ | refine wM ?_ | refine wS ?_ | refine wP ?_ | refine wJ ?_ | refine wX ?_ | refine wY ?_))
        clear hF
        repeat refine evDone ?_
        try (show AW _ _ _ _ _)
        repeat refine AW.seq ?_
        refine AW.condT (by simp []) (by simp []) ?_
        repeat refine AW.seq ?_
        refine AW.reg ?_
        have hF := And.intro (hD) (hN)
        repeat (first | refine wD1 ?_ | refine wD2 ?_ | refine wE1 ?_ | refine wE2 ?_ | (refine wE3 ?_; intro _) | (refine wE4 ?_; intro _) | refine wN ?_ | ((with_reducible show evIs _ (_ :: _) _ _); first | refine wQ ?_ | refine wF ?_ | refine wG ?_ | refine wT ?_ | refine wM ?_ | refine wS ?_ | refine wP ?_ | refine wJ ?_ | refine wX ?_ | refine wY ?_))
        clear hF
        repeat refine evDone ?_
        try (show AW _ _ _ _ _)
        have hF := And.intro (hrl) (And.intro (hD) (hN))
        refine wC (hA := h16) ?_
        clear hF
        have hF := And.intro (hD) (hN)
        repeat (first | refine wD1 ?_ | refine wD2 ?_ | refine wE1 ?_ | refine wE2 ?_ | (refine wE3 ?_; intro _) | (refine wE4 ?_; intro _) | refine wN ?_ | ((with_reducible show evIs _ (_ :: _) _ _); first | refine wQ ?_ | refine wF ?_ | refine wG ?_ | refine wT ?_ | refine wM ?_ | refine wS ?_ | refine wP ?_ | refine wJ ?_ | refine wX ?_ | refine wY ?_))
        clear hF
        repeat refine evDone ?_
        try (show AW _ _ _ _ _)
        repeat refine AW.seq ?_
        refine AW.reg ?_
        have hF := True.intro
        repeat (first | refine wD1 ?_ | refine wD2 ?_ | refine wE1 ?_ | refine wE2 ?_ | (refine wE3 ?_; intro _) | (refine wE4 ?_; intro _) | refine wN ?_ | ((with_reducible show evIs _ (_ :: _) _ _); first | refine wQ ?_ | refine wF ?_ | refine wG ?_ | refine wT ?_ | refine wM ?_ | refine wS ?_ | refine wP ?_ | refine wJ ?_ | refine wX ?_ | refine wY ?_))
        clear hF
        repeat refine evDone ?_
        try (show AW _ _ _ _ _)
        repeat refine AW.seq ?_
        refine AW.condF (by simp []) (by simp []) ?_
        refine AW.skip ?_
        show AW _ _ _ _ _
        repeat refine AW.seq ?_
        refine AW.reg ?_
        have hF := True.intro
        repeat (first | refine wD1 ?_ | refine wD2 ?_ | refine wE1 ?_ | refine wE2 ?_ | (refine wE3 ?_; intro _) | (refine wE4 ?_; intro _) | refine wN ?_ | ((with_reducible show evIs _ (_ :: _) _ _); first | refine wQ ?_ | refine wF ?_ | refine wG ?_ | refine wT ?_ | refine wM ?_ | refine wS ?_ | refine wP ?_ | refine wJ ?_ | refine wX ?_ | refine wY ?_))
        clear hF
        repeat refine evDone ?_
        try (show AW _ _ _ _ _)
        repeat refine AW.seq ?_
        refine AW.reg ?_
        have hF := And.intro (hD) (And.intro (hN) (And.intro (hy1) (hy2)))
        repeat (first | refine wD1 ?_ | refine wD2 ?_ | refine wE1 ?_ | refine wE2 ?_ | (refine wE3 ?_; intro _) | (refine wE4 ?_; intro _) | refine wN ?_ | ((with_reducible show evIs _ (_ :: _) _ _); first | refine wQ ?_ | refine wF ?_ | refine wG ?_ | refine wT ?_ | refine wM ?_ | refine wS ?_ | refine wP ?_ | refine wJ ?_ | refine wX ?_ | refine wY ?_))
        clear hF
        repeat refine evDone ?_
        try (show AW _ _ _ _ _)
        repeat refine AW.seq ?_
        refine AW.reg ?_
        have hF := And.intro (hD) (And.intro (hN) (And.intro (hy3) (hy4)))
        repeat (first | refine wD1 ?_ | refine wD2 ?_ | refine wE1 ?_ | refine wE2 ?_ | (refine wE3 ?_; intro _) | (refine wE4 ?_; intro _) | refine wN ?_ | ((with_reducible show evIs _ (_ :: _) _ _); first | refine wQ ?_ | refine wF ?_ | refine wG ?_ | refine wT ?_ | refine wM ?_ | refine wS ?_ | refine wP ?_ | refine wJ ?_ | refine wX ?_ | refine wY ?_))
        clear hF
        repeat refine evDone ?_
        try (show AW _ _ _ _ _)
        refine AW.exit ?_
        show AW _ _ _ _ _
        refine AW.reg ?_
        have hF := hw
        repeat (first | refine wD1 ?_ | refine wD2 ?_ | refine wE1 ?_ | refine wE2 ?_ | (refine wE3 ?_; intro _) | (refine wE4 ?_; intro _) | refine wN ?_ | ((with_reducible show evIs _ (_ :: _) _ _); first | refine wQ ?_ | refine wF ?_ | refine wG ?_ | refine wT ?_ | refine wM ?_ | refine wS ?_ | refine wP ?_ | refine wJ ?_ | refine wX ?_ | refine wY ?_))
        clear hF
        repeat refine evDone ?_
        try (show AW _ _ _ _ _)
        refine ⟨(i + 1, n + 200, n + 76, n + 69, rN), ⟨by dsimp only; omega, ?_, ?_, ?_, ?_, ?_, ?_⟩, by dsimp only; omega, ?_⟩
        all_goals first | (dsimp only; omega) | skip
        refine Fit.mk _ _ _ (by simp [hw, hst, hD, hN, hL, ha1, ha2, conv2, newEmp, convs_refl, convs, conv]) (by simp [hw, hst, hD, hN, hL, ha1, ha2, heapFit, newEmp, conv2s, conv2, convs_refl, convs, conv]) (by intro q hq; first | (simp at hq; done) | (simp at hq; omega) | (simp at hq; simp; omega))
      · have h10 : ACall Try.prog 10 [pat live, .sl .fro [], .str nm, .int .i64 (and3 c), .bool false] (· = verA (ver live [] nm (and3 c) false)) := f10 live [] nm (and3 c) false (by omega) (by simp) ok1 (by simp)
        have ha3 : IntKind.i64.wrap (((c % 2 ^ IntKind.i64.bits).toNat &&& 3 % 2 ^ IntKind.i64.bits : Nat) : Int) = and3 c := rfl
        simp only [stepL, if_neg hcm] at hst
        have hy1 : (vers.length + 1) * 8 ≤ 140737488355328 := by omega
        have hy2 : vers.length + 1 ≤ 9223372036854775807 := by omega
        have hy3 : (evts.length + 1) * 272 ≤ 140737488355328 := by omega
        have hy4 : evts.length + 1 ≤ 9223372036854775807 := by omega
        simp only [ver] at h10
        generalize and3 c = a at h10 ha3 hst
        have hF := hcm
        repeat (first | refine wD1 ?_ | refine wD2 ?_ | refine wE1 ?_ | refine wE2 ?_ | (refine wE3 ?_; intro _) | (refine wE4 ?_; intro _) | refine wN ?_ | ((with_reducible show evIs _ (_ :: _) _ _); first | refine wQ ?_ | refine wF ?_ | refine wG ?_ | refine wT ?_ | refine wM ?_ | refine wS ?_ | refine wP ?_ | refine wJ ?_ | refine wX ?_ | refine wY ?_))
        clear hF
        repeat refine evDone ?_
        try (show AW _ _ _ _ _)
        repeat refine AW.seq ?_
        refine AW.condF (by simp [hcm]) (by simp [hcm]) ?_
        refine AW.skip ?_
        show AW _ _ _ _ _
        cases hf : live.findIdx? (isP 0 nm) with
        | some k =>
          rw [hf] at hst h10
          simp only [verA] at h10 hst
          have hpc := pats_cl live
          have ha1 := ints_app vers (findN live nm)
          generalize findN live nm = fn at h10 hst ha1
          repeat refine AW.seq ?_
          refine AW.reg ?_
          have hF := And.intro (ha3) (And.intro (hD) (hN))
          repeat (first | refine wD1 ?_ | refine wD2 ?_ | refine wE1 ?_ | refine wE2 ?_ | (refine wE3 ?_; intro _) | (refine wE4 ?_; intro _) | refine wN ?_ | ((with_reducible show evIs _ (_ :: _) _ _); first | refine wQ ?_ | refine wF ?_ | refine wG ?_ | refine wT ?_ | refine wM ?_ | refine wS ?_ | refine wP ?_ | refine wJ ?_ | refine wX ?_ | refine wY ?_))
          clear hF
          repeat refine evDone ?_
          try (show AW _ _ _ _ _)
          have hF := And.intro (hpc) (And.intro (hD) (hN))
          refine wC (hA := h10) ?_
          clear hF
          have hF := And.intro (hD) (hN)
          repeat (first | refine wD1 ?_ | refine wD2 ?_ | refine wE1 ?_ | refine wE2 ?_ | (refine wE3 ?_; intro _) | (refine wE4 ?_; intro _) | refine wN ?_ | ((with_reducible show evIs _ (_ :: _) _ _); first | refine wQ ?_ | refine wF ?_ | refine wG ?_ | refine wT ?_ | refine wM ?_ | refine wS ?_ | refine wP ?_ | refine wJ ?_ | refine wX ?_ | refine wY ?_))
          clear hF
          repeat refine evDone ?_
          try (show AW _ _ _ _ _)
          repeat refine AW.seq ?_
          refine AW.reg ?_
          have hF := True.intro
          repeat (first | refine wD1 ?_ | refine wD2 ?_ | refine wE1 ?_ | refine wE2 ?_ | (refine wE3 ?_; intro _) | (refine wE4 ?_; intro _) | refine wN ?_ | ((with_reducible show evIs _ (_ :: _) _ _); first | refine wQ ?_ | refine wF ?_ | refine wG ?_ | refine wT ?_ | refine wM ?_ | refine wS ?_ | refine wP ?_ | refine wJ ?_ | refine wX ?_ | refine wY ?_))
          clear hF
          repeat refine evDone ?_
          try (show AW _ _ _ _ _)
          repeat refine AW.seq ?_
          refine AW.reg ?_
          have hF := And.intro (hD) (And.intro (hN) (And.intro (hy1) (hy2)))
          repeat (first | refine wD1 ?_ | refine wD2 ?_ | refine wE1 ?_ | refine wE2 ?_ | (refine wE3 ?_; intro _) | (refine wE4 ?_; intro _) | refine wN ?_ | ((with_reducible show evIs _ (_ :: _) _ _); first | refine wQ ?_ | refine wF ?_ | refine wG ?_ | refine wT ?_ | refine wM ?_ | refine wS ?_ | refine wP ?_ | refine wJ ?_ | refine wX ?_ | refine wY ?_))
          clear hF
          repeat refine evDone ?_
          try (show AW _ _ _ _ _)
          repeat refine AW.seq ?_
          refine AW.reg ?_
          have hF := True.intro
          repeat (first | refine wD1 ?_ | refine wD2 ?_ | refine wE1 ?_ | refine wE2 ?_ | (refine wE3 ?_; intro _) | (refine wE4 ?_; intro _) | refine wN ?_ | ((with_reducible show evIs _ (_ :: _) _ _); first | refine wQ ?_ | refine wF ?_ | refine wG ?_ | refine wT ?_ | refine wM ?_ | refine wS ?_ | refine wP ?_ | refine wJ ?_ | refine wX ?_ | refine wY ?_))
          clear hF
          repeat refine evDone ?_
          try (show AW _ _ _ _ _)
          repeat refine AW.seq ?_
          refine AW.condF (by simp []) (by simp []) ?_
          refine AW.skip ?_
          show AW _ _ _ _ _
          refine AW.reg ?_
          have hF := hw
          repeat (first | refine wD1 ?_ | refine wD2 ?_ | refine wE1 ?_ | refine wE2 ?_ | (refine wE3 ?_; intro _) | (refine wE4 ?_; intro _) | refine wN ?_ | ((with_reducible show evIs _ (_ :: _) _ _); first | refine wQ ?_ | refine wF ?_ | refine wG ?_ | refine wT ?_ | refine wM ?_ | refine wS ?_ | refine wP ?_ | refine wJ ?_ | refine wX ?_ | refine wY ?_))
          clear hF
          repeat refine evDone ?_
          try (show AW _ _ _ _ _)
          refine ⟨(i + 1, n + 200, rE, rV, n + 97), ⟨by dsimp only; omega, ?_, ?_, ?_, ?_, ?_, ?_⟩, by dsimp only; omega, ?_⟩
          all_goals first | (dsimp only; omega) | skip
          refine Fit.mk _ _ _ (by simp [hw, hst, hD, hN, hL, ha1, conv2, newEmp, convs_refl, convs, conv]) (by simp [hw, hst, hD, hN, hL, ha1, heapFit, newEmp, conv2s, conv2, convs_refl, convs, conv]) (by intro q hq; first | (simp at hq; done) | (simp at hq; omega) | (simp at hq; simp; omega))
        | none =>
          rw [hf] at hst h10
          simp only [verA, Bool.false_eq_true, if_false] at h10 hst
          have hpc := pats_cl (live ++ [newP nm a])
          have ha1 := ints_app vers a
          have ha2 := evr_ver evts nm a
          repeat refine AW.seq ?_
          refine AW.reg ?_
          have hF := And.intro (ha3) (And.intro (hD) (hN))
          repeat (first | refine wD1 ?_ | refine wD2 ?_ | refine wE1 ?_ | refine wE2 ?_ | (refine wE3 ?_; intro _) | (refine wE4 ?_; intro _) | refine wN ?_ | ((with_reducible show evIs _ (_ :: _) _ _); first | refine wQ ?_ | refine wF ?_ | refine wG ?_ | refine wT ?_ | refine wM ?_ | refine wS ?_ | refine wP ?_ | refine wJ ?_ | refine wX ?_ | refine wY ?_))
          clear hF
          repeat refine evDone ?_
          try (show AW _ _ _ _ _)
          have hF := And.intro (hpc) (And.intro (hD) (hN))
          refine wC (hA := h10) ?_
          clear hF
          have hF := And.intro (hD) (hN)
          repeat (first | refine wD1 ?_ | refine wD2 ?_ | refine wE1 ?_ | refine wE2 ?_ | (refine wE3 ?_; intro _) | (refine wE4 ?_; intro _) | refine wN ?_ | ((with_reducible show evIs _ (_ :: _) _ _); first | refine wQ ?_ | refine wF ?_ | refine wG ?_ | refine wT ?_ | refine wM ?_ | refine wS ?_ | refine wP ?_ | refine wJ ?_ | refine wX ?_ | refine wY ?_))
          clear hF
          repeat refine evDone ?_
          try (show AW _ _ _ _ _)
          repeat refine AW.seq ?_
          refine AW.reg ?_
          have hF := True.intro
          repeat (first | refine wD1 ?_ | refine wD2 ?_ | refine wE1 ?_ | refine wE2 ?_ | (refine wE3 ?_; intro _) | (refine wE4 ?_; intro _) | refine wN ?_ | ((with_reducible show evIs _ (_ :: _) _ _); first | refine wQ ?_ | refine wF ?_ | refine wG ?_ | refine wT ?_ | refine wM ?_ | refine wS ?_ | refine wP ?_ | refine wJ ?_ | refine wX ?_ | refine wY ?_))
          clear hF
          repeat refine evDone ?_
          try (show AW _ _ _ _ _)
          repeat refine AW.seq ?_
          refine AW.reg ?_
          have hF := And.intro (hD) (And.intro (hN) (And.intro (hy1) (hy2)))
          repeat (first | refine wD1 ?_ | refine wD2 ?_ | refine wE1 ?_ | refine wE2 ?_ | (refine wE3 ?_; intro _) | (refine wE4 ?_; intro _) | refine wN ?_ | ((with_reducible show evIs _ (_ :: _) _ _); first | refine wQ ?_ | refine wF ?_ | refine wG ?_ | refine wT ?_ | refine wM ?_ | refine wS ?_ | refine wP ?_ | refine wJ ?_ | refine wX ?_ | refine wY ?_))
          clear hF
          repeat refine evDone ?_
          try (show AW _ _ _ _ _)
          repeat refine AW.seq ?_
          refine AW.reg ?_
          have hF := True.intro
          repeat (first | refine wD1 ?_ | refine wD2 ?_ | refine wE1 ?_ | refine wE2 ?_ | (refine wE3 ?_; intro _) | (refine wE4 ?_; intro _) | refine wN ?_ | ((with_reducible show evIs _ (_ :: _) _ _); first | refine wQ ?_ | refine wF ?_ | refine wG ?_ | refine wT ?_ | refine wM ?_ | refine wS ?_ | refine wP ?_ | refine wJ ?_ | refine wX ?_ | refine wY ?_))
          clear hF
          repeat refine evDone ?_
          try (show AW _ _ _ _ _)
          repeat refine AW.seq ?_
          refine AW.condT (by simp []) (by simp []) ?_
          repeat refine AW.seq ?_
          refine AW.reg ?_
          have hF := And.intro (hD) (And.intro (hN) (And.intro (hy3) (hy4)))
          repeat (first | refine wD1 ?_ | refine wD2 ?_ | refine wE1 ?_ | refine wE2 ?_ | (refine wE3 ?_; intro _) | (refine wE4 ?_; intro _) | refine wN ?_ | ((with_reducible show evIs _ (_ :: _) _ _); first | refine wQ ?_ | refine wF ?_ | refine wG ?_ | refine wT ?_ | refine wM ?_ | refine wS ?_ | refine wP ?_ | refine wJ ?_ | refine wX ?_ | refine wY ?_))
          clear hF
          repeat refine evDone ?_
          try (show AW _ _ _ _ _)
          refine AW.reg ?_
          have hF := hw
          repeat (first | refine wD1 ?_ | refine wD2 ?_ | refine wE1 ?_ | refine wE2 ?_ | (refine wE3 ?_; intro _) | (refine wE4 ?_; intro _) | refine wN ?_ | ((with_reducible show evIs _ (_ :: _) _ _); first | refine wQ ?_ | refine wF ?_ | refine wG ?_ | refine wT ?_ | refine wM ?_ | refine wS ?_ | refine wP ?_ | refine wJ ?_ | refine wX ?_ | refine wY ?_))
          clear hF
          repeat refine evDone ?_
          try (show AW _ _ _ _ _)
          refine ⟨(i + 1, n + 200, n + 105, rV, n + 97), ⟨by dsimp only; omega, ?_, ?_, ?_, ?_, ?_, ?_⟩, by dsimp only; omega, ?_⟩
          all_goals first | (dsimp only; omega) | skip
          refine Fit.mk _ _ _ (by simp [hw, hst, hD, hN, hL, ha1, ha2, conv2, newEmp, convs_refl, convs, conv]) (by simp [hw, hst, hD, hN, hL, ha1, ha2, heapFit, newEmp, conv2s, conv2, convs_refl, convs, conv]) (by intro q hq; first | (simp at hq; done) | (simp at hq; omega) | (simp at hq; simp; omega))
    · have hlt2 : ¬ (i : Int) < cs.length := by omega
      have hii : i = cs.length := by omega
      subst hii
      have hF := And.intro (hlt) (hlt2)
      repeat (first | refine wD1 ?_ | refine wD2 ?_ | refine wE1 ?_ | refine wE2 ?_ | (refine wE3 ?_; intro _) | (refine wE4 ?_; intro _) | refine wN ?_ | ((with_reducible show evIs _ (_ :: _) _ _); first | refine wQ ?_ | refine wF ?_ | refine wG ?_ | refine wT ?_ | refine wM ?_ | refine wS ?_ | refine wP ?_ | refine wJ ?_ | refine wX ?_ | refine wY ?_))
      clear hF
      repeat refine evDone ?_
      try (show AW _ _ _ _ _)
      repeat refine AW.seq ?_
      refine AW.condF (by simp []) (by simp []) ?_
      refine AW.exit ?_
      show AW _ _ _ _ _
      have hleft : Left names cs offers 0 (lsI names cs offers cs.length).pats := by simp [Left, lsI, LS.pats]
      have hlsN : ∀ i, i ≤ cs.length → LOk (lsI names cs offers i) i := fun i _ => lsI_ok hok i
      generalize hLN : lsI names cs offers cs.length = LN at hLo hleft ⊢
      obtain ⟨live, off, evts, vers, vals⟩ := LN
      obtain ⟨ok1, ok2, ok3, ok4, l1, l2, l3, l4, pl, pk⟩ := hLo
      dsimp only at ok1 ok2 ok3 ok4 l1 l2 l3 l4 ⊢
      have h19 := f19 evts ok3 (by omega)
      have hpc := pats_cl (evts.filterMap ofP)
      have het : (evr evts).take evts.length = evr evts := take_all (by simp)
      have hec := evr_cl evts
      refine AW.fit (Fit.freeze (d := 7) (r := rE) (off := 0) (len := evts.length) (b := ⟨24, false, evr evts⟩) (by simp) (by simp [hD]) rfl (by simp)) ?_
      repeat refine AW.seq ?_
      refine AW.reg ?_
      have hF := And.intro (het) (hec)
      repeat (first | refine wD1 ?_ | refine wD2 ?_ | refine wE1 ?_ | refine wE2 ?_ | (refine wE3 ?_; intro _) | (refine wE4 ?_; intro _) | refine wN ?_ | ((with_reducible show evIs _ (_ :: _) _ _); first | refine wQ ?_ | refine wF ?_ | refine wG ?_ | refine wT ?_ | refine wM ?_ | refine wS ?_ | refine wP ?_ | refine wJ ?_ | refine wX ?_ | refine wY ?_))
      clear hF
      repeat refine evDone ?_
      try (show AW _ _ _ _ _)
      have hF := And.intro (het) (And.intro (hec) (hpc))
      refine wC (hA := h19) ?_
      clear hF
      have hF := True.intro
      repeat (first | refine wD1 ?_ | refine wD2 ?_ | refine wE1 ?_ | refine wE2 ?_ | (refine wE3 ?_; intro _) | (refine wE4 ?_; intro _) | refine wN ?_ | ((with_reducible show evIs _ (_ :: _) _ _); first | refine wQ ?_ | refine wF ?_ | refine wG ?_ | refine wT ?_ | refine wM ?_ | refine wS ?_ | refine wP ?_ | refine wJ ?_ | refine wX ?_ | refine wY ?_))
      clear hF
      repeat refine evDone ?_
      try (show AW _ _ _ _ _)
      repeat refine AW.seq ?_
      refine AW.reg ?_
      have hF := True.intro
      repeat (first | refine wD1 ?_ | refine wD2 ?_ | refine wE1 ?_ | refine wE2 ?_ | (refine wE3 ?_; intro _) | (refine wE4 ?_; intro _) | refine wN ?_ | ((with_reducible show evIs _ (_ :: _) _ _); first | refine wQ ?_ | refine wF ?_ | refine wG ?_ | refine wT ?_ | refine wM ?_ | refine wS ?_ | refine wP ?_ | refine wJ ?_ | refine wX ?_ | refine wY ?_))
      clear hF
      repeat refine evDone ?_
      try (show AW _ _ _ _ _)
      repeat refine AW.seq ?_
      refine AW.reg ?_
      have hF := True.intro
      repeat (first | refine wD1 ?_ | refine wD2 ?_ | refine wE1 ?_ | refine wE2 ?_ | (refine wE3 ?_; intro _) | (refine wE4 ?_; intro _) | refine wN ?_ | ((with_reducible show evIs _ (_ :: _) _ _); first | refine wQ ?_ | refine wF ?_ | refine wG ?_ | refine wT ?_ | refine wM ?_ | refine wS ?_ | refine wP ?_ | refine wJ ?_ | refine wX ?_ | refine wY ?_))
      clear hF
      repeat refine evDone ?_
      try (show AW _ _ _ _ _)
      repeat refine AW.seq ?_
      refine AW.block ?_
      refine AW.loop (fun g : Nat × Nat × Nat × List Patch => g.1 ≤ cs.length ∧ Left names cs offers g.1 g.2.2.2 ∧ rV < g.2.1 ∧ rN < g.2.1 ∧ g.2.2.1 < g.2.1 ∧ g.2.2.1 ≠ rV ∧ g.2.2.1 ≠ rN)
        (fun g => mkS [(0, .sl .fro (names.map .str)), (8, pat live), (9, pat (lsI names cs offers g.1).live), (10, pat g.2.2.2), (11, .hdr rV 0 vals.length), (12, .hdr g.2.2.1 0 (lsI names cs offers g.1).vals.length), (13, .hdr rN 0 vers.length), (25, .int .i64 (lsI names cs offers g.1).vers.length), (119, .sl .fro (ints cs)), (120, .int .i64 cs.length), (121, .int .i64 g.1)] [(rV, ⟨5, false, avs vals⟩), (rN, ⟨1, false, ints vers⟩), (g.2.2.1, ⟨5, false, avs (lsI names cs offers g.1).vals⟩)] g.2.1) (fun g => cs.length - g.1) (0, n + 20, n + 10, evts.filterMap ofP) ⟨by simp, hleft, by dsimp only; omega, by dsimp only; omega, by dsimp only; omega, by dsimp only; omega, by dsimp only; omega⟩ ?_ ?_
      · refine Fit.mk _ _ _ (by simp [lsI, avs, pat, hD, hN, hL, hB, conv2, newEmp, convs_refl, convs, conv]) (by simp [lsI, avs, pat, hD, hN, hL, hB, heapFit, newEmp, conv2s, conv2, convs_refl, convs, conv]) (by intro q hq; first | (simp at hq; done) | (simp at hq; omega) | (simp at hq; simp; omega))
      clear hD hN hL hB het hec h19 hpc hleft hlt hlt2 hi
      · rintro ⟨i, n, rW, Q⟩ ⟨hi, hleft, hs1, hs2, hs3, hs4, hs5⟩
        dsimp only at hi hleft hs1 hs2 hs3 hs4 hs5 ⊢
        have hD : (rV = rN) = False ∧ (rV = rW) = False ∧ (rN = rV) = False ∧ (rN = rW) = False ∧ (rW = rV) = False ∧ (rW = rN) = False := by
          refine ⟨?_, ?_, ?_, ?_, ?_, ?_⟩ <;> exact eq_false (by omega)
        have hN : (∀ k, (rV = n + k) = False) ∧ (∀ k, (n + k = rV) = False) ∧ (∀ k, (rN = n + k) = False) ∧ (∀ k, (n + k = rN) = False) ∧ (∀ k, (rW = n + k) = False) ∧ (∀ k, (n + k = rW) = False) ∧ (∀ k, (n + k < n) = False) := by
          refine ⟨?_, ?_, ?_, ?_, ?_, ?_, ?_⟩ <;> exact fun k => eq_false (by omega)
        have hL : (∀ k, rV < n + k) ∧ (∀ k, rN < n + k) ∧ (∀ k, rW < n + k) := by
          refine ⟨?_, ?_, ?_⟩ <;> exact fun k => by omega
        have hB : rV < n ∧ rN < n ∧ rW < n := by refine ⟨?_, ?_, ?_⟩ <;> omega
        have hLo := hlsN i hi
        repeat refine AW.seq ?_
        refine AW.reg ?_
        by_cases hlt : i < cs.length
        · have hLo2 := hlsN (i + 1) (by omega)
          obtain ⟨q, hq1, hq2, hq3⟩ := name_at (names := names) (by omega) i
          have hq4 : (0 : Int) ≤ (q : Int) := by omega
          have hq5 : (q : Int) < names.length := by omega
          obtain ⟨c, hc⟩ : ∃ c, cs[i]? = some c := ⟨_, List.getElem?_eq_getElem hlt⟩
          have hcd : cs.getD i 0 = c := by simp [hc]
          have hec := ints_at hc
          have hw : IntKind.i64.wrap ((i : Int) + 1) = (i : Int) + 1 := i64_in _ ⟨by omega, by omega⟩
          have hQ : Q.length ≤ 30 := by
            have := congrArg List.length hleft
            rw [hLN] at this
            simp at this
            have := pl
            omega
          have hQok : ∀ p ∈ Q, p.ok := fun p hp => pk p (by
            have : p ∈ (lsI names cs offers i).pats ++ Q := List.mem_append_right _ hp
            rw [hleft, hLN] at this
            exact this)
          have hF := hlt
          repeat (first | refine wD1 ?_ | refine wD2 ?_ | refine wE1 ?_ | refine wE2 ?_ | (refine wE3 ?_; intro _) | (refine wE4 ?_; intro _) | refine wN ?_ | ((with_reducible show evIs _ (_ :: _) _ _); first | refine wQ ?_ | refine wF ?_ | refine wG ?_ | refine wT ?_ | refine wM ?_ | refine wS ?_ | refine wP ?_ | refine wJ ?_ | refine wX ?_ | refine wY ?_))
          clear hF
          repeat refine evDone ?_
          try (show AW _ _ _ _ _)
          repeat refine AW.seq ?_
          refine AW.condT (by simp []) (by simp []) ?_
          refine AW.skip ?_
          show AW _ _ _ _ _
          refine AW.seq (AW.block ?_)
          repeat refine AW.seq ?_
          refine AW.reg ?_
          have hF := And.intro (hlt) (hec)
          repeat (first | refine wD1 ?_ | refine wD2 ?_ | refine wE1 ?_ | refine wE2 ?_ | (refine wE3 ?_; intro _) | (refine wE4 ?_; intro _) | refine wN ?_ | ((with_reducible show evIs _ (_ :: _) _ _); first | refine wQ ?_ | refine wF ?_ | refine wG ?_ | refine wT ?_ | refine wM ?_ | refine wS ?_ | refine wP ?_ | refine wJ ?_ | refine wX ?_ | refine wY ?_))
          clear hF
          repeat refine evDone ?_
          try (show AW _ _ _ _ _)
          repeat refine AW.seq ?_
          refine AW.reg ?_
          have hF := And.intro (hq1) (And.intro (hq2) (And.intro (hq3) (And.intro (hq4) (And.intro (hq5) (And.intro (hn0) (And.intro (hn1) (hn2)))))))
          repeat (first | refine wD1 ?_ | refine wD2 ?_ | refine wE1 ?_ | refine wE2 ?_ | (refine wE3 ?_; intro _) | (refine wE4 ?_; intro _) | refine wN ?_ | ((with_reducible show evIs _ (_ :: _) _ _); first | refine wQ ?_ | refine wF ?_ | refine wG ?_ | refine wT ?_ | refine wM ?_ | refine wS ?_ | refine wP ?_ | refine wJ ?_ | refine wX ?_ | refine wY ?_))
          clear hF
          repeat refine evDone ?_
          try (show AW _ _ _ _ _)
          repeat refine AW.seq ?_
          refine AW.reg ?_
          by_cases hcm : c = -1
          · obtain ⟨Q', rfl, hl', e1, e2, e3⟩ := left_rec hleft hlt (hcd.trans hcm)
            have hvok := headV_ok hLo.offers
            have l4' := hLo.l4
            generalize headV (lsI names cs offers i).offers = v at hQ hQok e3 hvok
            have h16 : ACall Try.prog 16 [pat (recP (nameAt names i) v :: Q'), .sl .fro [], .str (nameAt names i), .bool true] (· = recR (.own 8) (recP (nameAt names i) v :: Q') [] (nameAt names i) true) := f16 (recP (nameAt names i) v :: Q') [] (nameAt names i) true (by omega) (by simp) hQok trivial
            have hrr := rec_replay Q' (nameAt names i) v
            obtain ⟨vk, vn, vt, vi, vs⟩ := v
            simp only [Val.av] at hrr
            generalize recR (.own 8) (recP (nameAt names i) (.mk vk vn vt vi vs) :: Q') [] (nameAt names i) true = A at h16 hrr
            generalize nameAt names i = nm at h16 hrr hq3 ⊢
            have hy1 : ((lsI names cs offers i).vals.length + 1) * 80 ≤ 140737488355328 := by omega
            have hy2 : (lsI names cs offers i).vals.length + 1 ≤ 9223372036854775807 := by omega
            have ha1 := avs_app (lsI names cs offers i).vals vk vn vt vi vs
            generalize recP nm (.mk vk vn vt vi vs) :: Q' = Qc at h16 ⊢
            have hcl5 := clC_avs vi
            have hF := hcm
            repeat (first | refine wD1 ?_ | refine wD2 ?_ | refine wE1 ?_ | refine wE2 ?_ | (refine wE3 ?_; intro _) | (refine wE4 ?_; intro _) | refine wN ?_ | ((with_reducible show evIs _ (_ :: _) _ _); first | refine wQ ?_ | refine wF ?_ | refine wG ?_ | refine wT ?_ | refine wM ?_ | refine wS ?_ | refine wP ?_ | refine wJ ?_ | refine wX ?_ | refine wY ?_))
            clear hF
            repeat refine evDone ?_
            try (show AW _ _ _ _ _)
            repeat refine AW.seq ?_
            refine AW.condT (by simp []) (by simp []) ?_
            repeat refine AW.seq ?_
            refine AW.reg ?_
            have hF := And.intro (hq3) (And.intro (hD) (hN))
            repeat (first | refine wD1 ?_ | refine wD2 ?_ | refine wE1 ?_ | refine wE2 ?_ | (refine wE3 ?_; intro _) | (refine wE4 ?_; intro _) | refine wN ?_ | ((with_reducible show evIs _ (_ :: _) _ _); first | refine wQ ?_ | refine wF ?_ | refine wG ?_ | refine wT ?_ | refine wM ?_ | refine wS ?_ | refine wP ?_ | refine wJ ?_ | refine wX ?_ | refine wY ?_))
            clear hF
            repeat refine evDone ?_
            try (show AW _ _ _ _ _)
            have hF := And.intro (hrr) (And.intro (hD) (hN))
            refine wC (hA := h16) ?_
            clear hF
            have hF := And.intro (hD) (hN)
            repeat (first | refine wD1 ?_ | refine wD2 ?_ | refine wE1 ?_ | refine wE2 ?_ | (refine wE3 ?_; intro _) | (refine wE4 ?_; intro _) | refine wN ?_ | ((with_reducible show evIs _ (_ :: _) _ _); first | refine wQ ?_ | refine wF ?_ | refine wG ?_ | refine wT ?_ | refine wM ?_ | refine wS ?_ | refine wP ?_ | refine wJ ?_ | refine wX ?_ | refine wY ?_))
            clear hF
            repeat refine evDone ?_
            try (show AW _ _ _ _ _)
            repeat refine AW.seq ?_
            refine AW.reg ?_
            have hF := True.intro
            repeat (first | refine wD1 ?_ | refine wD2 ?_ | refine wE1 ?_ | refine wE2 ?_ | (refine wE3 ?_; intro _) | (refine wE4 ?_; intro _) | refine wN ?_ | ((with_reducible show evIs _ (_ :: _) _ _); first | refine wQ ?_ | refine wF ?_ | refine wG ?_ | refine wT ?_ | refine wM ?_ | refine wS ?_ | refine wP ?_ | refine wJ ?_ | refine wX ?_ | refine wY ?_))
            clear hF
            repeat refine evDone ?_
            try (show AW _ _ _ _ _)
            repeat refine AW.seq ?_
            refine AW.condF (by simp []) (by simp []) ?_
            refine AW.skip ?_
            show AW _ _ _ _ _
            repeat refine AW.seq ?_
            refine AW.reg ?_
            have hF := True.intro
            repeat (first | refine wD1 ?_ | refine wD2 ?_ | refine wE1 ?_ | refine wE2 ?_ | (refine wE3 ?_; intro _) | (refine wE4 ?_; intro _) | refine wN ?_ | ((with_reducible show evIs _ (_ :: _) _ _); first | refine wQ ?_ | refine wF ?_ | refine wG ?_ | refine wT ?_ | refine wM ?_ | refine wS ?_ | refine wP ?_ | refine wJ ?_ | refine wX ?_ | refine wY ?_))
            clear hF
            repeat refine evDone ?_
            try (show AW _ _ _ _ _)
            repeat refine AW.seq ?_
            refine AW.reg ?_
            have hF := And.intro (hD) (And.intro (hN) (And.intro (hy1) (hy2)))
            repeat (first | refine wD1 ?_ | refine wD2 ?_ | refine wE1 ?_ | refine wE2 ?_ | (refine wE3 ?_; intro _) | (refine wE4 ?_; intro _) | refine wN ?_ | ((with_reducible show evIs _ (_ :: _) _ _); first | refine wQ ?_ | refine wF ?_ | refine wG ?_ | refine wT ?_ | refine wM ?_ | refine wS ?_ | refine wP ?_ | refine wJ ?_ | refine wX ?_ | refine wY ?_))
            clear hF
            repeat refine evDone ?_
            try (show AW _ _ _ _ _)
            refine AW.exit ?_
            show AW _ _ _ _ _
            refine AW.reg ?_
            have hF := hw
            repeat (first | refine wD1 ?_ | refine wD2 ?_ | refine wE1 ?_ | refine wE2 ?_ | (refine wE3 ?_; intro _) | (refine wE4 ?_; intro _) | refine wN ?_ | ((with_reducible show evIs _ (_ :: _) _ _); first | refine wQ ?_ | refine wF ?_ | refine wG ?_ | refine wT ?_ | refine wM ?_ | refine wS ?_ | refine wP ?_ | refine wJ ?_ | refine wX ?_ | refine wY ?_))
            clear hF
            repeat refine evDone ?_
            try (show AW _ _ _ _ _)
            refine ⟨(i + 1, n + 200, n + 153, Q'), ⟨by dsimp only; omega, hl', ?_, ?_, ?_, ?_, ?_⟩, by dsimp only; omega, ?_⟩
            all_goals first | (dsimp only; omega) | skip
            refine Fit.mk _ _ _ (by simp [hw, e1, e2, e3, hD, hN, hL, ha1, conv2, newEmp, convs_refl, convs, conv]) (by simp [hw, e1, e2, e3, hD, hN, hL, ha1, heapFit, newEmp, conv2s, conv2, convs_refl, convs, conv]) (by intro q hq; first | (simp at hq; done) | (simp at hq; omega) | (simp at hq; simp; omega))
          · obtain ⟨Q', vn, vb, hv, hl', e2, e3, hvk⟩ := left_ver hleft hlt (by rw [hcd]; exact hcm)
            rw [hLN] at hvk
            dsimp only at hvk
            have hkl : (lsI names cs offers i).vers.length < vers.length := (List.getElem?_eq_some_iff.1 hvk).1
            have hk1 : ¬ (vers.length : Int) ≤ ((lsI names cs offers i).vers.length : Int) := by omega
            have hk2 : (0 : Int) ≤ ((lsI names cs offers i).vers.length : Int) := by omega
            have hk3 : ((lsI names cs offers i).vers.length : Int) < vers.length := by omega
            have hek := ints_at hvk
            have l1' := hLo.l1
            have l3' := hLo.l3
            have h10 := f10 (lsI names cs offers i).live Q (nameAt names i) 0 true (by omega) (by omega) hLo.live hQok
            rw [hv] at h10
            simp only [verA] at h10
            have hpc1 := pats_cl (lsI names cs offers (i + 1)).live
            have hpc2 := pats_cl Q'
            have hwk : IntKind.i64.wrap (((lsI names cs offers i).vers.length : Int) + 1) = ((lsI names cs offers i).vers.length : Int) + 1 := i64_in _ ⟨by omega, by omega⟩
            have hkk : (((lsI names cs offers (i + 1)).vers.length : Nat) : Int) = ((lsI names cs offers i).vers.length : Int) + 1 := by rw [e2]; simp
            have hF := hcm
            repeat (first | refine wD1 ?_ | refine wD2 ?_ | refine wE1 ?_ | refine wE2 ?_ | (refine wE3 ?_; intro _) | (refine wE4 ?_; intro _) | refine wN ?_ | ((with_reducible show evIs _ (_ :: _) _ _); first | refine wQ ?_ | refine wF ?_ | refine wG ?_ | refine wT ?_ | refine wM ?_ | refine wS ?_ | refine wP ?_ | refine wJ ?_ | refine wX ?_ | refine wY ?_))
            clear hF
            repeat refine evDone ?_
            try (show AW _ _ _ _ _)
            repeat refine AW.seq ?_
            refine AW.condF (by simp [hcm]) (by simp [hcm]) ?_
            refine AW.skip ?_
            show AW _ _ _ _ _
            repeat refine AW.seq ?_
            refine AW.reg ?_
            have hF := And.intro (hq3) (And.intro (hD) (hN))
            repeat (first | refine wD1 ?_ | refine wD2 ?_ | refine wE1 ?_ | refine wE2 ?_ | (refine wE3 ?_; intro _) | (refine wE4 ?_; intro _) | refine wN ?_ | ((with_reducible show evIs _ (_ :: _) _ _); first | refine wQ ?_ | refine wF ?_ | refine wG ?_ | refine wT ?_ | refine wM ?_ | refine wS ?_ | refine wP ?_ | refine wJ ?_ | refine wX ?_ | refine wY ?_))
            clear hF
            repeat refine evDone ?_
            try (show AW _ _ _ _ _)
            have hF := And.intro (hpc1) (And.intro (hpc2) (And.intro (hD) (hN)))
            refine wC (hA := h10) ?_
            clear hF
            have hF := And.intro (hD) (hN)
            repeat (first | refine wD1 ?_ | refine wD2 ?_ | refine wE1 ?_ | refine wE2 ?_ | (refine wE3 ?_; intro _) | (refine wE4 ?_; intro _) | refine wN ?_ | ((with_reducible show evIs _ (_ :: _) _ _); first | refine wQ ?_ | refine wF ?_ | refine wG ?_ | refine wT ?_ | refine wM ?_ | refine wS ?_ | refine wP ?_ | refine wJ ?_ | refine wX ?_ | refine wY ?_))
            clear hF
            repeat refine evDone ?_
            try (show AW _ _ _ _ _)
            repeat refine AW.seq ?_
            refine AW.reg ?_
            have hF := And.intro (hk1) (And.intro (hk2) (And.intro (hk3) (And.intro (hkl) (And.intro (hek) (And.intro (hD) (hN))))))
            repeat (first | refine wD1 ?_ | refine wD2 ?_ | refine wE1 ?_ | refine wE2 ?_ | (refine wE3 ?_; intro _) | (refine wE4 ?_; intro _) | refine wN ?_ | ((with_reducible show evIs _ (_ :: _) _ _); first | refine wQ ?_ | refine wF ?_ | refine wG ?_ | refine wT ?_ | refine wM ?_ | refine wS ?_ | refine wP ?_ | refine wJ ?_ | refine wX ?_ | refine wY ?_))
            clear hF
            repeat refine evDone ?_
            try (show AW _ _ _ _ _)
            repeat refine AW.seq ?_
            refine AW.condF (by simp []) (by simp []) ?_
            refine AW.skip ?_
            show AW _ _ _ _ _
            repeat refine AW.seq ?_
            refine AW.reg ?_
            have hF := True.intro
            repeat (first | refine wD1 ?_ | refine wD2 ?_ | refine wE1 ?_ | refine wE2 ?_ | (refine wE3 ?_; intro _) | (refine wE4 ?_; intro _) | refine wN ?_ | ((with_reducible show evIs _ (_ :: _) _ _); first | refine wQ ?_ | refine wF ?_ | refine wG ?_ | refine wT ?_ | refine wM ?_ | refine wS ?_ | refine wP ?_ | refine wJ ?_ | refine wX ?_ | refine wY ?_))
            clear hF
            repeat refine evDone ?_
            try (show AW _ _ _ _ _)
            repeat refine AW.seq ?_
            refine AW.reg ?_
            have hF := hwk
            repeat (first | refine wD1 ?_ | refine wD2 ?_ | refine wE1 ?_ | refine wE2 ?_ | (refine wE3 ?_; intro _) | (refine wE4 ?_; intro _) | refine wN ?_ | ((with_reducible show evIs _ (_ :: _) _ _); first | refine wQ ?_ | refine wF ?_ | refine wG ?_ | refine wT ?_ | refine wM ?_ | refine wS ?_ | refine wP ?_ | refine wJ ?_ | refine wX ?_ | refine wY ?_))
            clear hF
            repeat refine evDone ?_
            try (show AW _ _ _ _ _)
            refine AW.reg ?_
            have hF := hw
            repeat (first | refine wD1 ?_ | refine wD2 ?_ | refine wE1 ?_ | refine wE2 ?_ | (refine wE3 ?_; intro _) | (refine wE4 ?_; intro _) | refine wN ?_ | ((with_reducible show evIs _ (_ :: _) _ _); first | refine wQ ?_ | refine wF ?_ | refine wG ?_ | refine wT ?_ | refine wM ?_ | refine wS ?_ | refine wP ?_ | refine wJ ?_ | refine wX ?_ | refine wY ?_))
            clear hF
            repeat refine evDone ?_
            try (show AW _ _ _ _ _)
            refine ⟨(i + 1, n + 200, rW, Q'), ⟨by dsimp only; omega, hl', ?_, ?_, ?_, ?_, ?_⟩, by dsimp only; omega, ?_⟩
            all_goals first | (dsimp only; omega) | skip
            refine Fit.mk _ _ _ (by simp [hw, hwk, hkk, e3, hD, hN, hL, conv2, newEmp, convs_refl, convs, conv]) (by simp [hw, hwk, hkk, e3, hD, hN, hL, heapFit, newEmp, conv2s, conv2, convs_refl, convs, conv]) (by intro q hq; first | (simp at hq; done) | (simp at hq; omega) | (simp at hq; simp; omega))
        · have hlt2 : ¬ (i : Int) < cs.length := by omega
          have hii : i = cs.length := by omega
          subst hii
          rw [hLN] at hLo
          have hQ0 : Q = [] := by
            unfold Left at hleft
            simpa using hleft
          subst hQ0
          have h14 := f14 live ok1 (by omega)
          have h18 := f18 (.mk 0 0 ⟨#[]⟩ vals []) ⟨by omega, by simp, ok4⟩
          simp only [Val.av, List.map_nil] at h18
          have hvt : (avs vals).take vals.length = avs vals := take_all (by simp)
          have hvc := clC_avs vals
          have hF := And.intro (hlt) (And.intro (hlt2) (hLN))
          repeat (first | refine wD1 ?_ | refine wD2 ?_ | refine wE1 ?_ | refine wE2 ?_ | (refine wE3 ?_; intro _) | (refine wE4 ?_; intro _) | refine wN ?_ | ((with_reducible show evIs _ (_ :: _) _ _); first | refine wQ ?_ | refine wF ?_ | refine wG ?_ | refine wT ?_ | refine wM ?_ | refine wS ?_ | refine wP ?_ | refine wJ ?_ | refine wX ?_ | refine wY ?_))
          clear hF
          repeat refine evDone ?_
          try (show AW _ _ _ _ _)
          repeat refine AW.seq ?_
          refine AW.condF (by simp []) (by simp []) ?_
          refine AW.exit ?_
          show AW _ _ _ _ _
          repeat refine AW.seq ?_
          refine AW.reg ?_
          have hF := And.intro (hLN) (And.intro (hD) (hN))
          repeat (first | refine wD1 ?_ | refine wD2 ?_ | refine wE1 ?_ | refine wE2 ?_ | (refine wE3 ?_; intro _) | (refine wE4 ?_; intro _) | refine wN ?_ | ((with_reducible show evIs _ (_ :: _) _ _); first | refine wQ ?_ | refine wF ?_ | refine wG ?_ | refine wT ?_ | refine wM ?_ | refine wS ?_ | refine wP ?_ | refine wJ ?_ | refine wX ?_ | refine wY ?_))
          clear hF
          repeat refine evDone ?_
          try (show AW _ _ _ _ _)
          have hF := And.intro (hLN) (And.intro (hD) (hN))
          refine wC (hA := h14) ?_
          clear hF
          have hF := And.intro (hLN) (And.intro (hD) (hN))
          repeat (first | refine wD1 ?_ | refine wD2 ?_ | refine wE1 ?_ | refine wE2 ?_ | (refine wE3 ?_; intro _) | (refine wE4 ?_; intro _) | refine wN ?_ | ((with_reducible show evIs _ (_ :: _) _ _); first | refine wQ ?_ | refine wF ?_ | refine wG ?_ | refine wT ?_ | refine wM ?_ | refine wS ?_ | refine wP ?_ | refine wJ ?_ | refine wX ?_ | refine wY ?_))
          clear hF
          repeat refine evDone ?_
          try (show AW _ _ _ _ _)
          have hF := And.intro (hLN) (And.intro (hvt) (And.intro (hvc) (And.intro (hD) (hN))))
          refine wC (hA := h18) ?_
          clear hF
          have hF := True.intro
          repeat (first | refine wD1 ?_ | refine wD2 ?_ | refine wE1 ?_ | refine wE2 ?_ | (refine wE3 ?_; intro _) | (refine wE4 ?_; intro _) | refine wN ?_ | ((with_reducible show evIs _ (_ :: _) _ _); first | refine wQ ?_ | refine wF ?_ | refine wG ?_ | refine wT ?_ | refine wM ?_ | refine wS ?_ | refine wP ?_ | refine wJ ?_ | refine wX ?_ | refine wY ?_))
          clear hF
          repeat refine evDone ?_
          try (show AW _ _ _ _ _)
          have hF := True.intro
          refine wC (hA := works) ?_
          clear hF
          have hF := True.intro
          repeat (first | refine wD1 ?_ | refine wD2 ?_ | refine wE1 ?_ | refine wE2 ?_ | (refine wE3 ?_; intro _) | (refine wE4 ?_; intro _) | refine wN ?_ | ((with_reducible show evIs _ (_ :: _) _ _); first | refine wQ ?_ | refine wF ?_ | refine wG ?_ | refine wT ?_ | refine wM ?_ | refine wS ?_ | refine wP ?_ | refine wJ ?_ | refine wX ?_ | refine wY ?_))
          clear hF
          repeat refine evDone ?_
          try (show AW _ _ _ _ _)
          refine AW.ret (retI rfl ?_)
          simp [a7_res, resOk, resP, resV, ARes.op, R2s, R2, R1s, R1, closeOk, closeV]
end Go.Proofs.Ytlnhmlffhjmmiaa

set_option linter.unusedSimpArgs false
set_option linter.unusedVariables false
namespace Go.Proofs.Ytlnhmlffhjmmiaa
open Go Go.Amb Go.RowKit
section
variable {H : Type} {enc : TypeId × Value → H} {w : World} {n : Nat} {cs : List Value} {x : DataW H × List MemPlace}
theorem tell_names {v : Value} {d : DataW H} {p : List MemPlace} (h : DataW.Trod enc Try.prog w 0 (fun _ => true) true 33 v d p) : ∃ l : List ByteArray, Tell w [.sl .fro (l.map .str)] v.cells.toList ∧ l.length ≤ 9223372036854775807 := by
  obtain ⟨n, h⟩ := h
  obtain ⟨l, a, hl, _⟩ := tell_slice Try.underlying33 (by decide +kernel) AV.str (fun _ _ => True) h (fun m _ cs x hx => by
    obtain ⟨s, a, _⟩ := tell_str Try.underlying9 hx
    exact ⟨s, a, by kernel_rfl, trivial⟩)
  exact ⟨l, a, by simpa [maxLen] using hl⟩
theorem tell_calls {v : Value} {d : DataW H} {p : List MemPlace} (h : DataW.Trod enc Try.prog w 0 (fun _ => true) true 49 v d p) : ∃ l : List Int, Tell w [.sl .fro (ints l)] v.cells.toList ∧ l.length ≤ 9223372036854775807 := by
  obtain ⟨n, h⟩ := h
  obtain ⟨l, a, hl, _⟩ := tell_slice Try.underlying49 (by decide +kernel) (AV.int .i64) (fun _ _ => True) h (fun m _ cs x hx => by
    obtain ⟨s, a, _⟩ := tell_int Try.underlying3 hx
    exact ⟨s, a, by kernel_rfl, trivial⟩)
  exact ⟨l, a, by simpa [maxLen] using hl⟩
end
end Go.Proofs.Ytlnhmlffhjmmiaa
