/- Contracts of chapter 2's functions: where a key stands among risen keys (plain). -/
import Derived.Test.YtdnpnokplfemfaaS1
import Derived.Test.YtdnpnokplfemfaaAL
import Derived.Test.YtdnpnokplfemfaaS2
import Derived.Test.YtdnpnokplfemfaaP1

set_option linter.unusedSimpArgs false
set_option linter.unusedVariables false
set_option maxHeartbeats 4000000
namespace Go.Proofs.Ytdnpnokplfemfaa
open Go Go.Amb Go.IntWalk

theorem bl_irrefl : ∀ a : List UInt8, Op.bytesLess a a = false
  | [] => rfl
  | a :: x => by
    have h := bl_irrefl x
    simp [Op.bytesLess, h, UInt8.lt_irrefl]
theorem bl_trans : ∀ {a b c : List UInt8}, Op.bytesLess a b = true → Op.bytesLess b c = true → Op.bytesLess a c = true
  | [], [], _, h, _ => by simp [Op.bytesLess] at h
  | [], _ :: _, [], _, h => by simp [Op.bytesLess] at h
  | [], _ :: _, _ :: _, _, _ => by simp [Op.bytesLess]
  | _ :: _, [], _, h, _ => by simp [Op.bytesLess] at h
  | _ :: _, _ :: _, [], _, h => by simp [Op.bytesLess] at h
  | a :: x, b :: y, c :: z, h1, h2 => by
    have ih := @bl_trans x y z
    simp only [Op.bytesLess, Bool.or_eq_true, Bool.and_eq_true, decide_eq_true_eq, beq_iff_eq] at h1 h2 ⊢
    rcases h1 with h1 | ⟨rfl, h1⟩
    · rcases h2 with h2 | ⟨rfl, h2⟩
      · exact .inl (UInt8.lt_trans h1 h2)
      · exact .inl h1
    · rcases h2 with h2 | ⟨rfl, h2⟩
      · exact .inl h2
      · exact .inr ⟨rfl, ih h1 h2⟩
theorem bl_flip : ∀ a b : List UInt8, a ≠ b → Op.bytesLess b a = !Op.bytesLess a b
  | [], [], h => absurd rfl h
  | [], b :: bs, _ => by simp [Op.bytesLess]
  | a :: xs, [], _ => by simp [Op.bytesLess]
  | a :: xs, b :: ys, h => by
    by_cases e : a = b
    · subst e
      have h2 := bl_flip xs ys (fun e => h (by rw [e]))
      simp [Op.bytesLess, UInt8.lt_irrefl, h2]
    · have e2 : (b == a) = false := by simp; exact fun h => e h.symm
      have e3 : (a == b) = false := by simp [e]
      by_cases hlt : a < b
      · have hgt : ¬ b < a := UInt8.lt_asymm hlt
        simp [Op.bytesLess, hlt, hgt, e2]
      · have hgt : b < a := by
          rcases UInt8.lt_or_lt_of_ne e with h | h
          · exact absurd h hlt
          · exact h
        simp [Op.bytesLess, hlt, hgt, e3]
theorem toL_data (a : ByteArray) : a.toList = a.data.toList := by
  have key : ∀ (n i : Nat) (r : List UInt8), a.size - i = n → ByteArray.toList.loop a i r = r.reverse ++ a.data.toList.drop i := by
    intro n
    induction n with
    | zero =>
      intro i r h
      have hl : a.data.toList.length ≤ i := by
        show a.data.size ≤ i
        have : a.size = a.data.size := rfl
        omega
      rw [ByteArray.toList.loop, if_neg (by omega), List.drop_eq_nil_of_le hl, List.append_nil]
    | succ n ih =>
      intro i r h
      have hi : i < a.data.toList.length := by
        show i < a.data.size
        have : a.size = a.data.size := rfl
        omega
      have hg : a.get! i = a.data.toList[i] := by
        show a.data[i]! = _
        rw [getElem!_pos a.data i hi]
        rfl
      rw [ByteArray.toList.loop, if_pos (by omega), ih _ _ (by omega), hg, List.reverse_cons, List.append_assoc, List.drop_eq_getElem_cons hi]
      rfl
  rw [ByteArray.toList, key _ 0 [] rfl]
  rfl
theorem toL_inj {a b : ByteArray} (h : a.toList = b.toList) : a = b := by
  rw [toL_data, toL_data] at h
  obtain ⟨⟨x⟩⟩ := a
  obtain ⟨⟨y⟩⟩ := b
  simp only at h
  rw [h]
/-- Two keys: the first is less, equal or more. -/
theorem key_cases (a b : ByteArray) : (a = b ∧ Op.bytesLess a.toList b.toList = false) ∨ (a ≠ b ∧ Op.bytesLess a.toList b.toList = true ∧ Op.bytesLess b.toList a.toList = false) ∨ (a ≠ b ∧ Op.bytesLess a.toList b.toList = false ∧ Op.bytesLess b.toList a.toList = true) := by
  by_cases h : a = b
  · subst h; exact .inl ⟨rfl, bl_irrefl _⟩
  · have h2 := bl_flip a.toList b.toList (fun e => h (toL_inj e))
    cases hb : Op.bytesLess a.toList b.toList with
    | true => rw [hb] at h2; exact .inr (.inl ⟨h, rfl, h2⟩)
    | false => rw [hb] at h2; exact .inr (.inr ⟨h, rfl, h2⟩)
theorem rising_all : ∀ {l : List ByteArray} {a : ByteArray}, rising (a :: l) = true → ∀ k ∈ l, Op.bytesLess a.toList k.toList = true
  | [], _, _, _, h => by simp at h
  | b :: l, a, h, k, hk => by
    simp only [rising, Bool.and_eq_true] at h
    rcases List.mem_cons.1 hk with rfl | hk
    · exact h.1
    · exact bl_trans h.1 (rising_all h.2 k hk)
theorem rising_tail {a : ByteArray} {l : List ByteArray} (h : rising (a :: l) = true) : rising l = true := by
  cases l with
  | nil => rfl
  | cons b l => simp only [rising, Bool.and_eq_true] at h; exact h.2
/-- How many keys stand before a key. -/
def posK (ks : List ByteArray) (p : ByteArray) : Nat := (ks.takeWhile fun k => Op.bytesLess k.toList p.toList).length
theorem posK_le (ks : List ByteArray) (p : ByteArray) : posK ks p ≤ ks.length := by
  unfold posK
  induction ks with
  | nil => simp
  | cons a l ih =>
    simp only [List.takeWhile_cons]
    split
    · simp; exact ih
    · simp
theorem posK_at (p : ByteArray) : ∀ (ks : List ByteArray), rising ks = true → ∀ (h : Nat) (k : ByteArray), ks[h]? = some k → Op.bytesLess k.toList p.toList = decide (h < posK ks p)
  | [], _, h, k, e => by simp at e
  | a :: l, hr, h, k, e => by
    unfold posK
    cases hb : Op.bytesLess a.toList p.toList with
    | true =>
      simp only [List.takeWhile_cons, hb, if_true, List.length_cons]
      cases h with
      | zero => simp at e; subst e; simp [hb]
      | succ h =>
        have := posK_at p l (rising_tail hr) h k (by simpa using e)
        rw [this]
        exact decide_eq_decide.2 (by unfold posK; omega)
    | false =>
      simp only [List.takeWhile_cons, hb, Bool.false_eq_true, if_false, List.length_nil, Nat.not_lt_zero, decide_false]
      cases h with
      | zero => simp at e; subst e; exact hb
      | succ h =>
        have hk : k ∈ l := List.mem_of_getElem? (by simpa using e)
        have h1 := rising_all hr k hk
        cases h2 : Op.bytesLess k.toList p.toList with
        | false => rfl
        | true => rw [bl_trans h1 h2] at hb; cases hb
/-- The key itself can only stand at its place. -/
theorem only_at {ks : List ByteArray} {p : ByteArray} (hr : rising ks = true) {h : Nat} (e : ks[h]? = some p) : h = posK ks p := by
  have h1 := posK_at p ks hr h p e
  rw [bl_irrefl] at h1
  have h2 : ¬ h < posK ks p := by simpa using h1.symm
  by_cases h3 : h = posK ks p
  · exact h3
  · have hlt : posK ks p < h := by omega
    have hn : h < ks.length := (List.getElem?_eq_some_iff.1 e).1
    obtain ⟨k, hk⟩ : ∃ k, ks[posK ks p]? = some k := ⟨_, List.getElem?_eq_getElem (by omega)⟩
    have h4 := posK_at p ks hr _ k hk
    have h5 : Op.bytesLess k.toList p.toList = true := by
      have hd : ks.drop (posK ks p) = k :: ks.drop (posK ks p + 1) := by
        rw [List.drop_eq_getElem_cons (by omega)]
        congr 1
        exact (List.getElem?_eq_some_iff.1 hk).2
      have hrd : ∀ (n : Nat) (l : List ByteArray), rising l = true → rising (l.drop n) = true := by
        intro n
        induction n with
        | zero => intro l hl; simpa using hl
        | succ n ih =>
          intro l hl
          cases l with
          | nil => simpa using hl
          | cons a l => simpa using ih l (rising_tail hl)
      have h6 := hrd (posK ks p) ks hr
      rw [hd] at h6
      refine rising_all h6 p (List.mem_of_getElem? (i := h - (posK ks p + 1)) ?_)
      rw [List.getElem?_drop, show posK ks p + 1 + (h - (posK ks p + 1)) = h by omega]
      exact e
    rw [h5] at h4
    simp at h4
end Go.Proofs.Ytdnpnokplfemfaa

set_option linter.unusedSimpArgs false
set_option linter.unusedVariables false
set_option maxHeartbeats 8000000
namespace Go.Proofs.Ytdnpnokplfemfaa
open Go Go.Amb Go.IntWalk

/-- A list with an element put at a place; f elements there go. -/
def insL {α : Type} (l : List α) (pos f : Nat) (x : α) : List α := l.take pos ++ x :: l.drop (pos + f)
/-- The same, as far as a loop over the list has come. -/
def wIns {α : Type} (l : List α) (pos f : Nat) (x : α) (i : Nat) : List α := if i ≤ pos then l.take i else l.take pos ++ x :: (l.take i).drop (pos + f)
theorem wIns_0 {α : Type} (l : List α) (pos f : Nat) (x : α) : wIns l pos f x 0 = [] := by simp [wIns]
theorem take_snoc {α : Type} {l : List α} {i : Nat} {y : α} (h : l[i]? = some y) : l.take (i + 1) = l.take i ++ [y] := by
  rw [List.take_add_one, h]; rfl
theorem wIns_lt {α : Type} {l : List α} {pos f i : Nat} {x y : α} (hi : i < pos) (hy : l[i]? = some y) : wIns l pos f x i ++ [y] = wIns l pos f x (i + 1) := by
  unfold wIns
  rw [if_pos (by omega), if_pos (by omega), take_snoc hy]
theorem wIns_gt {α : Type} {l : List α} {pos f i : Nat} {x y : α} (hi : pos < i) (hf : f ≤ 1) (hy : l[i]? = some y) : wIns l pos f x i ++ [y] = wIns l pos f x (i + 1) := by
  have hl : i < l.length := (List.getElem?_eq_some_iff.1 hy).1
  unfold wIns
  rw [if_neg (by omega), if_neg (by omega), take_snoc hy, List.drop_append_of_le_length (by rw [List.length_take]; omega)]
  simp
theorem wIns_at1 {α : Type} {l : List α} {pos : Nat} {x y : α} (hy : l[pos]? = some y) : wIns l pos 1 x pos ++ [x] = wIns l pos 1 x (pos + 1) := by
  have hl : pos < l.length := (List.getElem?_eq_some_iff.1 hy).1
  unfold wIns
  rw [if_pos (by omega), if_neg (by omega)]
  have : (l.take (pos + 1)).drop (pos + 1) = [] := List.drop_eq_nil_of_le (by rw [List.length_take]; omega)
  rw [this]
theorem wIns_at0 {α : Type} {l : List α} {pos : Nat} {x y : α} (hy : l[pos]? = some y) : (wIns l pos 0 x pos ++ [x]) ++ [y] = wIns l pos 0 x (pos + 1) := by
  have hl : pos < l.length := (List.getElem?_eq_some_iff.1 hy).1
  unfold wIns
  rw [if_pos (by omega), if_neg (by omega), take_snoc hy, Nat.add_zero, List.drop_append_of_le_length (by rw [List.length_take]; omega)]
  have : (l.take pos).drop pos = [] := List.drop_eq_nil_of_le (by rw [List.length_take]; omega)
  rw [this]
  simp
theorem wIns_end {α : Type} {l : List α} {pos f : Nat} {x : α} (h : pos < l.length) : wIns l pos f x l.length = insL l pos f x := by
  unfold wIns insL
  rw [if_neg (by omega), List.take_length]
theorem wIns_end0 {α : Type} {l : List α} {pos : Nat} {x : α} (h : pos = l.length) : wIns l pos 0 x l.length ++ [x] = insL l pos 0 x := by
  subst h
  unfold wIns insL
  rw [if_pos (by omega), List.take_length, List.drop_eq_nil_of_le (by omega)]
theorem wIns_len {α β : Type} {l : List α} {m : List β} {pos f i : Nat} {x : α} {y : β} (h : l.length = m.length) : (wIns l pos f x i).length = (wIns m pos f y i).length := by
  unfold wIns
  split <;> simp [h]
theorem wIns_le {α : Type} {l : List α} {pos f i : Nat} {x : α} : (wIns l pos f x i).length ≤ i + 1 := by
  unfold wIns
  split
  · simp; omega
  · simp; omega
/-- Is the key among the keys? -/
def hasK (ks : List ByteArray) (p : ByteArray) : Nat := if ks[posK ks p]? = some p then 1 else 0
abbrev vBox (v : AV) : Blk := ⟨5, true, [v]⟩
theorem rootsNe (a b N : Nat) (ha : a < N) (hb : b < N) (hab : a ≠ b) (ha5 : 5 ≤ a) (hb5 : 5 ≤ b) :
    (a = b) = False ∧ (b = a) = False ∧ (∀ q, (a = N + q) = False) ∧ (∀ q, (b = N + q) = False) ∧ (∀ q, (N + q = a) = False) ∧ (∀ q, (N + q = b) = False) ∧ (a = 0) = False ∧ (a = 1) = False ∧ (a = 2) = False ∧ (a = 4) = False ∧ (b = 0) = False ∧ (b = 1) = False ∧ (b = 2) = False ∧ (b = 4) = False ∧
    (0 = a) = False ∧ (1 = a) = False ∧ (2 = a) = False ∧ (4 = a) = False ∧ (0 = b) = False ∧ (1 = b) = False ∧ (2 = b) = False ∧ (4 = b) = False ∧ (∀ q, (1 = N + q) = False) ∧ (∀ q, (2 = N + q) = False) ∧ (∀ q, (4 = N + q) = False) ∧ (∀ q, (N + q = 1) = False) ∧ (∀ q, (N + q = 2) = False) ∧ (∀ q, (N + q = 4) = False) ∧
    (∀ q, a < N + q) ∧ (∀ q, b < N + q) ∧ (∀ q, 0 < N + q) ∧ (∀ q, 1 < N + q) ∧ (∀ q, 2 < N + q) ∧ (∀ q, 4 < N + q) ∧ 0 < N ∧ 1 < N ∧ 2 < N ∧ 4 < N ∧ a < N ∧ b < N ∧ (∀ q, (N + q < N) = False) := by
  refine ⟨?_, ?_, ?_, ?_, ?_, ?_, ?_, ?_, ?_, ?_, ?_, ?_, ?_, ?_, ?_, ?_, ?_, ?_, ?_, ?_, ?_, ?_, ?_, ?_, ?_, ?_, ?_, ?_, ?_, ?_, ?_, ?_, ?_, ?_, ?_, ?_, ?_, ?_, ?_, ?_, ?_⟩ <;> first | exact eq_false (by omega) | exact fun q => eq_false (by omega) | exact fun q => by omega | omega
theorem f75 (k n : Int) (t : ByteArray) (is : List Val) (ks : List ByteArray) (p : ByteArray) (xk xn : Int) (xt : ByteArray) (xi : List Val) (xs : List ByteArray) (hr : rising ks = true) (hlen : ks.length = is.length) (hb : is.length ≤ 1000000) :
    ACall Try.prog 75 [.agg [.int .i64 k, .int .i64 n, .str t, .sl .fro (avs is), .sl .fro (ks.map .str)], .str p, .agg [.int .i64 xk, .int .i64 xn, .str xt, .sl .fro (avs xi), .sl .fro (xs.map .str)]] (· = .agg [.int .i64 5, .int .i64 0, .str ⟨#[]⟩, .sl (.own 5) (avs (insL is (posK ks p) (hasK ks p) (.mk xk xn xt xi xs))), .sl (.own 1) ((insL ks (posK ks p) (hasK ks p) p).map .str)]) := by
  obtain ⟨pos, hpos⟩ : ∃ pos, posK ks p = pos := ⟨_, rfl⟩
  obtain ⟨f, hf⟩ : ∃ f, hasK ks p = f := ⟨_, rfl⟩
  have hle := posK_le ks p
  have hat := posK_at p ks hr
  have honly := fun h => only_at (p := p) hr (h := h)
  rw [hpos] at hle hat honly
  rw [hpos, hf]
  unfold hasK at hf
  rw [hpos] at hf
  have hf1 : f ≤ 1 := by rw [← hf]; split <;> omega
  obtain ⟨x, hxv⟩ : ∃ x : Val, x = .mk xk xn xt xi xs := ⟨_, rfl⟩
  rw [← hxv]
  have hxa : avs [x] = [.agg [.int .i64 xk, .int .i64 xn, .str xt, .sl .fro (avs xi), .sl .fro (xs.map .str)]] := by rw [hxv]; simp [avs, Val.av]
  refine a75_of (by simp) ?_
  have hF := True.intro
  repeat (first | ((with_reducible show AW _ _ _ _ _); first | refine AW.seq ?_ | refine AW.block ?_ | refine AW.reg ?_ | refine AW.draw ?_ | refine wct ?_ | refine wcf ?_ | (refine AW.skip ?_; show AW _ _ _ _ _)) | refine wD1 ?_ | refine wD2 ?_ | refine wE1 ?_ | refine wE2 ?_ | (refine wE3 ?_; intro _) | (refine wE4 ?_; intro _) | refine wN ?_ | ((with_reducible show evIs _ (_ :: _) _ _); first | refine wQ ?_ | refine wF ?_ | refine wG ?_ | refine wT ?_ | refine wM ?_ | refine wS ?_ | refine wP ?_ | refine wJ ?_ | refine wX ?_ | refine wY ?_ | refine wZ ?_ | refine wU ?_ | refine wCp ?_ | refine wCp0 ?_ | refine wApz ?_ | (refine wCap ?_; intro qc hqc)) | refine evDone ?_ | ((fail_if_success with_reducible show AW _ _ _ _ _); show AW _ _ _ _ _))
  clear hF
  try (show AW _ _ _ _ _)
  refine AW.loop (fun g : Nat × Nat × Nat × Nat => g.1 ≤ is.length ∧ g.2.1 < g.2.2.2 ∧ g.2.2.1 < g.2.2.2 ∧ g.2.1 ≠ g.2.2.1 ∧ 5 ≤ g.2.1 ∧ 5 ≤ g.2.2.1) (fun g => mkS [(1, .str p), (3, .ptr 0 0 0), (5, .ptr 1 0 0), (6, .ptr 2 0 0), (7, .ptr 4 0 0), (8, .bool (decide (pos < g.1))), (9, .int .i64 g.1)] [(0, ⟨5, true, [.agg [.int .i64 k, .int .i64 n, .str t, .sl .fro (avs is), .sl .fro (ks.map .str)]]⟩), (1, ⟨5, true, [.agg [.int .i64 xk, .int .i64 xn, .str xt, .sl .fro (avs xi), .sl .fro (xs.map .str)]]⟩), (2, ⟨5, true, [.agg [.int .i64 0, .int .i64 0, .str ⟨#[]⟩, .sl .ext [], .sl .ext []]]⟩), (4, ⟨5, true, [.agg [.int .i64 5, .int .i64 0, .str ⟨#[]⟩, .hdr g.2.1 0 (wIns is pos f x g.1).length, .hdr g.2.2.1 0 (wIns is pos f x g.1).length]]⟩), (g.2.1, ⟨5, false, avs (wIns is pos f x g.1)⟩), (g.2.2.1, ⟨1, false, (wIns ks pos f p g.1).map .str⟩)] g.2.2.2) (fun g => is.length - g.1) (0, 10, 11, 20) (by simp) ?_ ?_
  · simp only [wIns_0]
    have hz0 : avs [] = [] := rfl
    refine Fit.mk _ _ _ (by simp [hz0, conv2, newEmp, convs_refl, convs, conv]) (by simp [hz0, heapFit, newEmp, conv2s, conv2, convs_refl, convs, conv]) (by intro q hq; first | (simp at hq; done) | (simp at hq; omega) | (simp at hq; simp; omega))
  rintro ⟨i, a, b, N⟩ ⟨hi, ha, hbb, hab, ha5, hb5⟩
  dsimp only at hi ha hbb hab ha5 hb5 ⊢
  have hN := rootsNe a b N ha hbb hab ha5 hb5
  have hlz : (wIns is pos f x i).length ≤ i + 1 := wIns_le
  have hlk : (wIns ks pos f p i).length = (wIns is pos f x i).length := wIns_len hlen
  by_cases hlt : i < is.length
  · obtain ⟨y, hy⟩ : ∃ y, is[i]? = some y := ⟨_, List.getElem?_eq_getElem hlt⟩
    obtain ⟨kk, hkk⟩ : ∃ kk, ks[i]? = some kk := ⟨_, List.getElem?_eq_getElem (by omega)⟩
    have hless := hat i kk hkk
    have hel : elemAt (ks.map AV.str) i = .str kk := elem_map (f := AV.str) hkk
    have hely := elem_map (f := Val.av) hy
    rw [← vals_map] at hely
    obtain ⟨yk, yn, yt, yi, ys⟩ := y
    simp only [Val.av] at hely
    have hltk : (i : Int) < ks.length := by omega
    have hlti : (i : Int) < is.length := by omega
    have hz : (0 : Int) ≤ i := by omega
    have hltk' : i < ks.length := by omega
    repeat refine AW.seq ?_
    refine AW.reg ?_
    have hF := And.intro (hltk) (hN)
    repeat ((with_reducible show evIs _ (_ :: _) _ _); first | refine wQ ?_ | refine wF ?_ | refine wG ?_ | refine wT ?_ | refine wM ?_ | refine wS ?_ | refine wP ?_)
    clear hF
    repeat refine evDone ?_
    try (show AW _ _ _ _ _)
    repeat refine AW.seq ?_
    refine AW.condT (by simp [hltk]) (by simp [hltk]) ?_
    refine AW.skip ?_
    show AW _ _ _ _ _
    refine AW.seq (AW.block ?_)
    refine AW.cutE (fun g : Nat × Nat × Nat => mkS [(1, .str p), (3, .ptr 0 0 0), (5, .ptr 1 0 0), (6, .ptr 2 0 0), (7, .ptr 4 0 0), (8, .bool (decide (pos ≤ i))), (9, .int .i64 i)] [(0, ⟨5, true, [.agg [.int .i64 k, .int .i64 n, .str t, .sl .fro (avs is), .sl .fro (ks.map .str)]]⟩), (1, ⟨5, true, [.agg [.int .i64 xk, .int .i64 xn, .str xt, .sl .fro (avs xi), .sl .fro (xs.map .str)]]⟩), (2, ⟨5, true, [.agg [.int .i64 0, .int .i64 0, .str ⟨#[]⟩, .sl .ext [], .sl .ext []]]⟩), (4, ⟨5, true, [.agg [.int .i64 5, .int .i64 0, .str ⟨#[]⟩, .hdr g.1 0 (if i = pos then wIns is pos f x i ++ [x] else wIns is pos f x i).length, .hdr g.2.1 0 (if i = pos then wIns is pos f x i ++ [x] else wIns is pos f x i).length]]⟩), (g.1, ⟨5, false, avs ((if i = pos then wIns is pos f x i ++ [x] else wIns is pos f x i))⟩), (g.2.1, ⟨1, false, ((if i = pos then wIns ks pos f p i ++ [p] else wIns ks pos f p i)).map .str⟩)] g.2.2) (fun g => g.1 < g.2.2 ∧ g.2.1 < g.2.2 ∧ g.1 ≠ g.2.1 ∧ 5 ≤ g.1 ∧ 5 ≤ g.2.1 ∧ N ≤ g.2.2) ?_ ?_
    · generalize hL : wIns is pos f x i = L at hlz hlk ⊢
      generalize hM : wIns ks pos f p i = M at hlk ⊢
      rcases Nat.lt_trichotomy i pos with hip | hip | hip
      · have hd : decide (pos < i) = false := by simp; omega
        have hd2 : decide (pos ≤ i) = false := by simp; omega
        have hd3 : ¬ i = pos := by omega
        have hls : Op.bytesLess kk.toList p.toList = true := by rw [hless]; simp; omega
        have hF := And.intro (hN) (And.intro (hd) (And.intro (hel) (And.intro (hltk) (And.intro (hltk') (And.intro (hz) (hls))))))
        repeat (first | ((with_reducible show AW _ _ _ _ _); first | refine AW.seq ?_ | refine AW.block ?_ | refine AW.reg ?_ | refine AW.draw ?_ | refine wct ?_ | refine wcf ?_ | (refine AW.skip ?_; show AW _ _ _ _ _)) | refine wD1 ?_ | refine wD2 ?_ | refine wE1 ?_ | refine wE2 ?_ | (refine wE3 ?_; intro _) | (refine wE4 ?_; intro _) | refine wN ?_ | ((with_reducible show evIs _ (_ :: _) _ _); first | refine wQ ?_ | refine wF ?_ | refine wG ?_ | refine wT ?_ | refine wM ?_ | refine wS ?_ | refine wP ?_ | refine wJ ?_ | refine wX ?_ | refine wY ?_ | refine wZ ?_ | refine wU ?_ | refine wCp ?_ | refine wCp0 ?_ | refine wApz ?_ | (refine wCap ?_; intro qc hqc)) | refine evDone ?_ | ((fail_if_success with_reducible show AW _ _ _ _ _); show AW _ _ _ _ _))
        clear hF
        try (show AW _ _ _ _ _)
        refine AW.skip ?_
        refine ⟨rfl, (a, b, N), ⟨ha, hbb, hab, ha5, hb5, Nat.le_refl _⟩, ?_⟩
        simp only [hd2, hd3, if_false]
        have hq : i ≤ pos := by omega
        refine Fit.mk _ _ _ (by simp [hN, hq, conv2, newEmp, convs_refl, convs, conv]) (by simp [hN, hq, heapFit, newEmp, conv2s, conv2, convs_refl, convs, conv]) (by intro q hq; first | (simp at hq; done) | (simp at hq; omega) | (simp at hq; simp; omega))
      · have hd : decide (pos < i) = false := by simp; omega
        have hd2 : decide (pos ≤ i) = true := by simp; omega
        have hls : Op.bytesLess kk.toList p.toList = false := by rw [hless]; simp; omega
        have hb1 : (L.length + 1) * 16 ≤ 140737488355328 := by omega
        have hb2 : (L.length + 1) * 80 ≤ 140737488355328 := by omega
        have hb3 : L.length + 1 ≤ 9223372036854775807 := by omega
        have hF := And.intro (hN) (And.intro (hd) (And.intro (hel) (And.intro (hltk) (And.intro (hltk') (And.intro (hz) (And.intro (hls) (And.intro (hlk) (And.intro (hb1) (And.intro (hb2) (hb3))))))))))
        repeat (first | ((with_reducible show AW _ _ _ _ _); first | refine AW.seq ?_ | refine AW.block ?_ | refine AW.reg ?_ | refine AW.draw ?_ | refine wct ?_ | refine wcf ?_ | (refine AW.skip ?_; show AW _ _ _ _ _)) | refine wD1 ?_ | refine wD2 ?_ | refine wE1 ?_ | refine wE2 ?_ | (refine wE3 ?_; intro _) | (refine wE4 ?_; intro _) | refine wN ?_ | ((with_reducible show evIs _ (_ :: _) _ _); first | refine wQ ?_ | refine wF ?_ | refine wG ?_ | refine wT ?_ | refine wM ?_ | refine wS ?_ | refine wP ?_ | refine wJ ?_ | refine wX ?_ | refine wY ?_ | refine wZ ?_ | refine wU ?_ | refine wCp ?_ | refine wCp0 ?_ | refine wApz ?_ | (refine wCap ?_; intro qc hqc)) | refine evDone ?_ | ((fail_if_success with_reducible show AW _ _ _ _ _); show AW _ _ _ _ _))
        clear hF
        try (show AW _ _ _ _ _)
        refine ⟨rfl, (N + 35, N + 28, N + 100), ⟨by dsimp only; omega, by dsimp only; omega, by dsimp only; omega, by dsimp only; omega, by dsimp only; omega, by dsimp only; omega⟩, ?_⟩
        simp only [hd2, hip, if_true]
        refine Fit.mk _ _ _ (by simp [hN, avs_append, hxa, conv2, newEmp, convs_refl, convs, conv]) (by simp [hN, avs_append, hxa, heapFit, newEmp, conv2s, conv2, convs_refl, convs, conv]) (by intro q hq; first | (simp at hq; done) | (simp at hq; omega) | (simp at hq; simp; omega))
      · have hd : decide (pos < i) = true := by simp; omega
        have hd2 : decide (pos ≤ i) = true := by simp; omega
        have hd3 : ¬ i = pos := by omega
        have hF := And.intro (hN) (hd)
        repeat (first | ((with_reducible show AW _ _ _ _ _); first | refine AW.seq ?_ | refine AW.block ?_ | refine AW.reg ?_ | refine AW.draw ?_ | refine wct ?_ | refine wcf ?_ | (refine AW.skip ?_; show AW _ _ _ _ _)) | refine wD1 ?_ | refine wD2 ?_ | refine wE1 ?_ | refine wE2 ?_ | (refine wE3 ?_; intro _) | (refine wE4 ?_; intro _) | refine wN ?_ | ((with_reducible show evIs _ (_ :: _) _ _); first | refine wQ ?_ | refine wF ?_ | refine wG ?_ | refine wT ?_ | refine wM ?_ | refine wS ?_ | refine wP ?_ | refine wJ ?_ | refine wX ?_ | refine wY ?_ | refine wZ ?_ | refine wU ?_ | refine wCp ?_ | refine wCp0 ?_ | refine wApz ?_ | (refine wCap ?_; intro qc hqc)) | refine evDone ?_ | ((fail_if_success with_reducible show AW _ _ _ _ _); show AW _ _ _ _ _))
        clear hF
        try (show AW _ _ _ _ _)
        refine AW.skip ?_
        refine ⟨rfl, (a, b, N), ⟨ha, hbb, hab, ha5, hb5, Nat.le_refl _⟩, ?_⟩
        simp only [hd2, hd3, if_false]
        refine Fit.mk _ _ _ (by simp [hN, hip, conv2, newEmp, convs_refl, convs, conv]) (by simp [hN, hip, heapFit, newEmp, conv2s, conv2, convs_refl, convs, conv]) (by intro q hq; first | (simp at hq; done) | (simp at hq; omega) | (simp at hq; simp; omega))
    rintro ⟨a, b, N'⟩ ⟨ha, hbb, hab, ha5, hb5, hNN⟩
    dsimp only at ha hbb hab ha5 hb5 hNN ⊢
    have hN := rootsNe a b N' ha hbb hab ha5 hb5
    have hw : IntKind.i64.wrap ((i : Int) + 1) = (i : Int) + 1 := i64_in _ ⟨by omega, by omega⟩
    obtain ⟨L, hL⟩ : ∃ L, (if i = pos then wIns is pos f x i ++ [x] else wIns is pos f x i) = L := ⟨_, rfl⟩
    obtain ⟨M, hM⟩ : ∃ M, (if i = pos then wIns ks pos f p i ++ [p] else wIns ks pos f p i) = M := ⟨_, rfl⟩
    have hLM : M.length = L.length := by
      rw [← hL, ← hM]
      split
      · simp [hlk]
      · exact hlk
    have hLl : L.length ≤ i + 2 := by
      rw [← hL]
      split
      · simp only [List.length_append, List.length_singleton]; omega
      · omega
    rw [hL, hM, mkS_eq]
    have hya : avs [Val.mk yk yn yt yi ys] = [.agg [.int .i64 yk, .int .i64 yn, .str yt, .sl .fro (avs yi), .sl .fro (ys.map .str)]] := by simp [avs, Val.av]
    by_cases hkp : kk = p
    · have hip : i = pos := honly i (by rw [hkk, hkp])
      have hfe : f = 1 := by rw [← hf, ← hip, hkk, hkp]; simp
      have hL2 : wIns is pos f x (i + 1) = L := by rw [← hL, if_pos hip, hfe, hip]; exact (wIns_at1 (by rw [← hip]; exact hy)).symm
      have hM2 : wIns ks pos f p (i + 1) = M := by rw [← hM, if_pos hip, hfe, hip]; exact (wIns_at1 (by rw [← hip]; exact hkk)).symm
      have hq : pos ≤ i := by omega
      have hq2 : pos < i + 1 := by omega
      subst hkp
      have hF := And.intro (hN) (And.intro (hel) (And.intro (hltk) (And.intro (hltk') (And.intro (hz) (hw)))))
      repeat (first | ((with_reducible show AW _ _ _ _ _); first | refine AW.seq ?_ | refine AW.block ?_ | refine AW.reg ?_ | refine AW.draw ?_ | refine wct ?_ | refine wcf ?_ | (refine AW.skip ?_; show AW _ _ _ _ _)) | refine wD1 ?_ | refine wD2 ?_ | refine wE1 ?_ | refine wE2 ?_ | (refine wE3 ?_; intro _) | (refine wE4 ?_; intro _) | refine wN ?_ | ((with_reducible show evIs _ (_ :: _) _ _); first | refine wQ ?_ | refine wF ?_ | refine wG ?_ | refine wT ?_ | refine wM ?_ | refine wS ?_ | refine wP ?_ | refine wJ ?_ | refine wX ?_ | refine wY ?_ | refine wZ ?_ | refine wU ?_ | refine wCp ?_ | refine wCp0 ?_ | refine wApz ?_ | (refine wCap ?_; intro qc hqc)) | refine evDone ?_ | ((fail_if_success with_reducible show AW _ _ _ _ _); show AW _ _ _ _ _))
      clear hF
      try (show AW _ _ _ _ _)
      refine ⟨(i + 1, a, b, N' + 200), ⟨by dsimp only; omega, by dsimp only; omega, by dsimp only; omega, hab, ha5, hb5⟩, by dsimp only; omega, ?_⟩
      dsimp only
      rw [hL2, hM2]
      refine Fit.mk _ _ _ (by simp [hN, hw, hq, hq2, conv2, newEmp, convs_refl, convs, conv]) (by simp [hN, hw, hq, hq2, heapFit, newEmp, conv2s, conv2, convs_refl, convs, conv]) (by intro q hq; first | (simp at hq; done) | (simp at hq; omega) | (simp at hq; simp; omega))
    · have hL2 : L ++ [.mk yk yn yt yi ys] = wIns is pos f x (i + 1) := by
        rw [← hL]
        rcases Nat.lt_trichotomy i pos with hip | hip | hip
        · rw [if_neg (by omega)]; exact wIns_lt hip hy
        · have hf0 : f = 0 := by rw [← hf, ← hip, hkk]; simp [hkp]
          rw [if_pos hip, hf0, hip]; exact wIns_at0 (by rw [← hip]; exact hy)
        · rw [if_neg (by omega)]; exact wIns_gt hip hf1 hy
      have hM2 : M ++ [kk] = wIns ks pos f p (i + 1) := by
        rw [← hM]
        rcases Nat.lt_trichotomy i pos with hip | hip | hip
        · rw [if_neg (by omega)]; exact wIns_lt hip hkk
        · have hf0 : f = 0 := by rw [← hf, ← hip, hkk]; simp [hkp]
          rw [if_pos hip, hf0, hip]; exact wIns_at0 (by rw [← hip]; exact hkk)
        · rw [if_neg (by omega)]; exact wIns_gt hip hf1 hkk
      have hb1 : (L.length + 1) * 16 ≤ 140737488355328 := by omega
      have hb2 : (L.length + 1) * 80 ≤ 140737488355328 := by omega
      have hb3 : L.length + 1 ≤ 9223372036854775807 := by omega
      have hd : decide (pos ≤ i) = decide (pos < i + 1) := decide_eq_decide.2 (by omega)
      rw [hd]
      generalize hdn : decide (pos < i + 1) = dn
      have hF := And.intro (hN) (And.intro (hel) (And.intro (hely) (And.intro (hltk) (And.intro (hltk') (And.intro (hlti) (And.intro (hlt) (And.intro (hz) (And.intro (hkp) (And.intro (hb1) (And.intro (hb2) (And.intro (hb3) (And.intro (hLM) (hw)))))))))))))
      repeat (first | ((with_reducible show AW _ _ _ _ _); first | refine AW.seq ?_ | refine AW.block ?_ | refine AW.reg ?_ | refine AW.draw ?_ | refine wct ?_ | refine wcf ?_ | (refine AW.skip ?_; show AW _ _ _ _ _)) | refine wD1 ?_ | refine wD2 ?_ | refine wE1 ?_ | refine wE2 ?_ | (refine wE3 ?_; intro _) | (refine wE4 ?_; intro _) | refine wN ?_ | ((with_reducible show evIs _ (_ :: _) _ _); first | refine wQ ?_ | refine wF ?_ | refine wG ?_ | refine wT ?_ | refine wM ?_ | refine wS ?_ | refine wP ?_ | refine wJ ?_ | refine wX ?_ | refine wY ?_ | refine wZ ?_ | refine wU ?_ | refine wCp ?_ | refine wCp0 ?_ | refine wApz ?_ | (refine wCap ?_; intro qc hqc)) | refine evDone ?_ | ((fail_if_success with_reducible show AW _ _ _ _ _); show AW _ _ _ _ _))
      clear hF
      try (show AW _ _ _ _ _)
      try refine evDone ?_
      refine ⟨(i + 1, N' + 65, N' + 54, N' + 200), ⟨by dsimp only; omega, by dsimp only; omega, by dsimp only; omega, by dsimp only; omega, by dsimp only; omega, by dsimp only; omega⟩, by dsimp only; omega, ?_⟩
      dsimp only
      rw [← hL2, ← hM2]
      refine Fit.mk _ _ _ (by simp [hN, hw, avs_append, hya, hdn, conv2, newEmp, convs_refl, convs, conv]) (by simp [hN, hw, avs_append, hya, hdn, heapFit, newEmp, conv2s, conv2, convs_refl, convs, conv]) (by intro q hq; first | (simp at hq; done) | (simp at hq; omega) | (simp at hq; simp; omega))
  · have hie : i = is.length := by omega
    have hltk : ¬ (i : Int) < ks.length := by omega
    have hik : i = ks.length := by omega
    have hF := And.intro (hltk) (hN)
    repeat (first | ((with_reducible show AW _ _ _ _ _); first | refine AW.seq ?_ | refine AW.block ?_ | refine AW.reg ?_ | refine AW.draw ?_ | refine wct ?_ | refine wcf ?_ | (refine AW.skip ?_; show AW _ _ _ _ _)) | refine wD1 ?_ | refine wD2 ?_ | refine wE1 ?_ | refine wE2 ?_ | (refine wE3 ?_; intro _) | (refine wE4 ?_; intro _) | refine wN ?_ | ((with_reducible show evIs _ (_ :: _) _ _); first | refine wQ ?_ | refine wF ?_ | refine wG ?_ | refine wT ?_ | refine wM ?_ | refine wS ?_ | refine wP ?_ | refine wJ ?_ | refine wX ?_ | refine wY ?_ | refine wZ ?_ | refine wU ?_ | refine wCp ?_ | refine wCp0 ?_ | refine wApz ?_ | (refine wCap ?_; intro qc hqc)) | refine evDone ?_ | ((fail_if_success with_reducible show AW _ _ _ _ _); show AW _ _ _ _ _))
    clear hF
    try (show AW _ _ _ _ _)
    refine AW.exit ?_
    show AW _ _ _ _ _
    by_cases hpe : pos < is.length
    · have hd : decide (pos < i) = true := by simp; omega
      have hw1 : wIns is pos f x i = insL is pos f x := by rw [hie]; exact wIns_end hpe
      have hw2 : wIns ks pos f p i = insL ks pos f p := by rw [hik]; exact wIns_end (by omega)
      rw [hw1, hw2]
      have hl2 : (insL is pos f x).length = (insL ks pos f p).length := by rw [← hw1, ← hw2]; exact hlk.symm
      generalize insL is pos f x = L at hl2 ⊢
      generalize insL ks pos f p = M at hl2 ⊢
      have ht1 : (avs L).take M.length = avs L := List.take_of_length_le (by simp [hl2])
      have ht2 : (M.map AV.str).take M.length = M.map AV.str := List.take_of_length_le (by simp)
      have hF := And.intro (hN) (hd)
      repeat (first | ((with_reducible show AW _ _ _ _ _); first | refine AW.seq ?_ | refine AW.block ?_ | refine AW.reg ?_ | refine AW.draw ?_ | refine wct ?_ | refine wcf ?_ | (refine AW.skip ?_; show AW _ _ _ _ _)) | refine wD1 ?_ | refine wD2 ?_ | refine wE1 ?_ | refine wE2 ?_ | (refine wE3 ?_; intro _) | (refine wE4 ?_; intro _) | refine wN ?_ | ((with_reducible show evIs _ (_ :: _) _ _); first | refine wQ ?_ | refine wF ?_ | refine wG ?_ | refine wT ?_ | refine wM ?_ | refine wS ?_ | refine wP ?_ | refine wJ ?_ | refine wX ?_ | refine wY ?_ | refine wZ ?_ | refine wU ?_ | refine wCp ?_ | refine wCp0 ?_ | refine wApz ?_ | (refine wCap ?_; intro qc hqc)) | refine evDone ?_ | ((fail_if_success with_reducible show AW _ _ _ _ _); show AW _ _ _ _ _))
      clear hF
      try (show AW _ _ _ _ _)
      refine AW.ret (retI rfl ?_)
      simp [hN, hl2, ht1, ht2, a75_res, resOk, resP, resV, ARes.op, R2s, R2, R1s, R1, closeOk, closeV]
    · have hpl : pos = is.length := by omega
      have hd : decide (pos < i) = false := by simp; omega
      have hf0 : f = 0 := by
        rw [← hf, List.getElem?_eq_none (by omega)]
        simp
      subst hf0
      have hw1 : insL is pos 0 x = wIns is pos 0 x i ++ [x] := by rw [hie]; exact (wIns_end0 hpl).symm
      have hw2 : insL ks pos 0 p = wIns ks pos 0 p i ++ [p] := by rw [hik]; exact (wIns_end0 (by omega)).symm
      rw [hw1, hw2]
      generalize wIns is pos 0 x i = L at hlz hlk ⊢
      generalize wIns ks pos 0 p i = M at hlk ⊢
      have hb1 : (L.length + 1) * 16 ≤ 140737488355328 := by omega
      have hb2 : (L.length + 1) * 80 ≤ 140737488355328 := by omega
      have hb3 : L.length + 1 ≤ 9223372036854775807 := by omega
      have ht1 : ∀ y : AV, (avs L ++ [y]).take (L.length + 1) = avs L ++ [y] := fun y => List.take_of_length_le (by simp)
      have ht2 : ∀ y : AV, (M.map AV.str ++ [y]).take (L.length + 1) = M.map AV.str ++ [y] := fun y => List.take_of_length_le (by simp [hlk])
      have hF := And.intro (hN) (And.intro (hd) (And.intro (hb1) (And.intro (hb2) (And.intro (hb3) (hlk)))))
      repeat (first | ((with_reducible show AW _ _ _ _ _); first | refine AW.seq ?_ | refine AW.block ?_ | refine AW.reg ?_ | refine AW.draw ?_ | refine wct ?_ | refine wcf ?_ | (refine AW.skip ?_; show AW _ _ _ _ _)) | refine wD1 ?_ | refine wD2 ?_ | refine wE1 ?_ | refine wE2 ?_ | (refine wE3 ?_; intro _) | (refine wE4 ?_; intro _) | refine wN ?_ | ((with_reducible show evIs _ (_ :: _) _ _); first | refine wQ ?_ | refine wF ?_ | refine wG ?_ | refine wT ?_ | refine wM ?_ | refine wS ?_ | refine wP ?_ | refine wJ ?_ | refine wX ?_ | refine wY ?_ | refine wZ ?_ | refine wU ?_ | refine wCp ?_ | refine wCp0 ?_ | refine wApz ?_ | (refine wCap ?_; intro qc hqc)) | refine evDone ?_ | ((fail_if_success with_reducible show AW _ _ _ _ _); show AW _ _ _ _ _))
      clear hF
      try (show AW _ _ _ _ _)
      refine AW.ret (retI rfl ?_)
      simp [hN, hlk, ht1, ht2, avs_append, hxa, a75_res, resOk, resP, resV, ARes.op, R2s, R2, R1s, R1, closeOk, closeV]

end Go.Proofs.Ytdnpnokplfemfaa

set_option linter.unusedSimpArgs false
set_option linter.unusedVariables false
set_option maxHeartbeats 8000000
namespace Go.Proofs.Ytdnpnokplfemfaa
open Go Go.Amb Go.IntWalk

/-- A list without the element at a place. -/
def delL {α : Type} (l : List α) (pos : Nat) : List α := l.take pos ++ l.drop (pos + 1)
def dL {α : Type} (l : List α) (pos f : Nat) (i : Nat) : List α := if f = 1 ∧ pos < i then l.take pos ++ (l.take i).drop (pos + 1) else l.take i
theorem dL_0 {α : Type} (l : List α) (pos f : Nat) : dL l pos f 0 = [] := by simp [dL]
theorem dL_keep {α : Type} {l : List α} {pos f i : Nat} {y : α} (h : ¬ (f = 1 ∧ i = pos)) (hy : l[i]? = some y) : dL l pos f i ++ [y] = dL l pos f (i + 1) := by
  have hl : i < l.length := (List.getElem?_eq_some_iff.1 hy).1
  unfold dL
  by_cases h1 : f = 1 ∧ pos < i
  · rw [if_pos h1, if_pos ⟨h1.1, by omega⟩, take_snoc hy, List.drop_append_of_le_length (by rw [List.length_take]; omega)]
    simp
  · rw [if_neg h1, if_neg (fun h2 => h1 ⟨h2.1, by omega⟩), take_snoc hy]
theorem dL_skip {α : Type} {l : List α} {pos i : Nat} {y : α} (h : i = pos) (hy : l[i]? = some y) : dL l pos 1 i = dL l pos 1 (i + 1) := by
  have hl : i < l.length := (List.getElem?_eq_some_iff.1 hy).1
  subst h
  unfold dL
  rw [if_neg (by omega), if_pos ⟨rfl, by omega⟩, List.drop_eq_nil_of_le (by rw [List.length_take]; omega)]
  simp
theorem dL_end {α : Type} {l : List α} {pos : Nat} (h : pos < l.length) : dL l pos 1 l.length = delL l pos := by
  unfold dL delL
  rw [if_pos ⟨rfl, h⟩, List.take_length]
theorem dL_end0 {α : Type} {l : List α} {pos : Nat} : dL l pos 0 l.length = l := by
  unfold dL
  rw [if_neg (by omega), List.take_length]
theorem dL_len {α β : Type} {l : List α} {m : List β} {pos f i : Nat} (h : l.length = m.length) : (dL l pos f i).length = (dL m pos f i).length := by
  unfold dL
  split <;> simp [h]
theorem dL_le {α : Type} {l : List α} {pos f i : Nat} : (dL l pos f i).length ≤ i := by
  unfold dL
  split
  · simp; omega
  · simp; omega
/-- The reference's get, at risen keys. -/
theorem f74 (is : List Val) (ks : List ByteArray) (p : ByteArray) (hr : rising ks = true) (hlen : ks.length = is.length) (hb : is.length ≤ 1000000) :
    ACall Try.prog 74 [.agg [.int .i64 5, .int .i64 0, .str ⟨#[]⟩, .sl .fro (avs is), .sl .fro (ks.map .str)], .str p] (· = match is[posK ks p]? with | some x => (if ks[posK ks p]? = some p then .tup [x.av, .bool true] else .tup [.agg [.int .i64 0, .int .i64 0, .str ⟨#[]⟩, .sl .fro [], .sl .fro []], .bool false]) | none => .tup [.agg [.int .i64 0, .int .i64 0, .str ⟨#[]⟩, .sl .fro [], .sl .fro []], .bool false]) := by
  obtain ⟨pos, hpos⟩ : ∃ pos, posK ks p = pos := ⟨_, rfl⟩
  have honly := fun h => only_at (p := p) hr (h := h)
  rw [hpos] at honly
  rw [hpos]
  refine a74_of (by simp) ?_
  have hF := True.intro
  repeat (first | ((with_reducible show AW _ _ _ _ _); first | refine AW.seq ?_ | refine AW.block ?_ | refine AW.reg ?_ | refine AW.draw ?_ | refine wct ?_ | refine wcf ?_ | (refine AW.skip ?_; show AW _ _ _ _ _)) | refine wD1 ?_ | refine wD2 ?_ | refine wE1 ?_ | refine wE2 ?_ | (refine wE3 ?_; intro _) | (refine wE4 ?_; intro _) | refine wN ?_ | ((with_reducible show evIs _ (_ :: _) _ _); first | refine wQ ?_ | refine wF ?_ | refine wG ?_ | refine wT ?_ | refine wM ?_ | refine wS ?_ | refine wP ?_ | refine wJ ?_ | refine wX ?_ | refine wY ?_ | refine wZ ?_ | refine wU ?_ | refine wCp ?_ | refine wCp0 ?_ | refine wApz ?_ | (refine wCap ?_; intro qc hqc)) | refine evDone ?_ | ((fail_if_success with_reducible show AW _ _ _ _ _); show AW _ _ _ _ _))
  clear hF
  try (show AW _ _ _ _ _)
  refine AW.loop (fun i : Nat => i ≤ is.length ∧ ∀ j, j < i → ks[j]? ≠ some p) (fun i => mkS [(1, .str p), (2, .ptr 0 0 0), (4, .ptr 1 0 0), (5, .bool false), (6, .int .i64 i)] [(0, ⟨5, true, [.agg [.int .i64 5, .int .i64 0, .str ⟨#[]⟩, .sl .fro (avs is), .sl .fro (ks.map .str)]]⟩), (1, ⟨5, true, [.agg [.int .i64 0, .int .i64 0, .str ⟨#[]⟩, .sl .ext [], .sl .ext []]]⟩)] 20) (fun i => is.length - i) 0 ⟨by omega, fun j hj => absurd hj (by omega)⟩ ?_ ?_
  · refine Fit.mk _ _ _ (by simp [conv2, newEmp, convs_refl, convs, conv]) (by simp [heapFit, newEmp, conv2s, conv2, convs_refl, convs, conv]) (by intro q hq; first | (simp at hq; done) | (simp at hq; omega) | (simp at hq; simp; omega))
  rintro i ⟨hi, hno⟩
  have hzz : True := trivial
  by_cases hlt : i < is.length
  · obtain ⟨y, hy⟩ : ∃ y, is[i]? = some y := ⟨_, List.getElem?_eq_getElem hlt⟩
    obtain ⟨kk, hkk⟩ : ∃ kk, ks[i]? = some kk := ⟨_, List.getElem?_eq_getElem (by omega)⟩
    have hel : elemAt (ks.map AV.str) i = .str kk := elem_map (f := AV.str) hkk
    have hely := elem_map (f := Val.av) hy
    rw [← vals_map] at hely
    have hltk : (i : Int) < ks.length := by omega
    have hlti : (i : Int) < is.length := by omega
    have hz : (0 : Int) ≤ i := by omega
    have hltk' : i < ks.length := by omega
    have hw : IntKind.i64.wrap ((i : Int) + 1) = (i : Int) + 1 := i64_in _ ⟨by omega, by omega⟩
    repeat refine AW.seq ?_
    refine AW.reg ?_
    have hF := And.intro (hltk) (hlti)
    repeat ((with_reducible show evIs _ (_ :: _) _ _); first | refine wQ ?_ | refine wF ?_ | refine wG ?_ | refine wT ?_ | refine wM ?_ | refine wS ?_ | refine wP ?_)
    clear hF
    repeat refine evDone ?_
    try (show AW _ _ _ _ _)
    repeat refine AW.seq ?_
    refine AW.condT (by simp [hltk, hlti]) (by simp [hltk, hlti]) ?_
    refine AW.skip ?_
    show AW _ _ _ _ _
    refine AW.seq (AW.block ?_)
    by_cases hkp : kk = p
    · have hip : i = pos := honly i (by rw [hkk, hkp])
      obtain ⟨yk, yn, yt, yi, ys⟩ := y
      simp only [Val.av] at hely
      subst hkp
      have hF := And.intro (hel) (And.intro (hely) (And.intro (hltk) (And.intro (hltk') (And.intro (hz) (And.intro (hlti) (hlt))))))
      repeat (first | ((with_reducible show AW _ _ _ _ _); first | refine AW.seq ?_ | refine AW.block ?_ | refine AW.reg ?_ | refine AW.draw ?_ | refine wct ?_ | refine wcf ?_ | (refine AW.skip ?_; show AW _ _ _ _ _)) | refine wD1 ?_ | refine wD2 ?_ | refine wE1 ?_ | refine wE2 ?_ | (refine wE3 ?_; intro _) | (refine wE4 ?_; intro _) | refine wN ?_ | ((with_reducible show evIs _ (_ :: _) _ _); first | refine wQ ?_ | refine wF ?_ | refine wG ?_ | refine wT ?_ | refine wM ?_ | refine wS ?_ | refine wP ?_ | refine wJ ?_ | refine wX ?_ | refine wY ?_ | refine wZ ?_ | refine wU ?_ | refine wCp ?_ | refine wCp0 ?_ | refine wApz ?_ | (refine wCap ?_; intro qc hqc)) | refine evDone ?_ | ((fail_if_success with_reducible show AW _ _ _ _ _); show AW _ _ _ _ _))
      clear hF
      try (show AW _ _ _ _ _)
      rw [← hip, hy, hkk]
      refine AW.ret (retI rfl ?_)
      simp [hely, Val.av, a74_res, resOk, resP, resV, ARes.op, R2s, R2, R1s, R1, closeOk, closeV]
    · have hF := And.intro (hel) (And.intro (hltk) (And.intro (hltk') (And.intro (hz) (And.intro (hkp) (hw)))))
      repeat (first | ((with_reducible show AW _ _ _ _ _); first | refine AW.seq ?_ | refine AW.block ?_ | refine AW.reg ?_ | refine AW.draw ?_ | refine wct ?_ | refine wcf ?_ | (refine AW.skip ?_; show AW _ _ _ _ _)) | refine wD1 ?_ | refine wD2 ?_ | refine wE1 ?_ | refine wE2 ?_ | (refine wE3 ?_; intro _) | (refine wE4 ?_; intro _) | refine wN ?_ | ((with_reducible show evIs _ (_ :: _) _ _); first | refine wQ ?_ | refine wF ?_ | refine wG ?_ | refine wT ?_ | refine wM ?_ | refine wS ?_ | refine wP ?_ | refine wJ ?_ | refine wX ?_ | refine wY ?_ | refine wZ ?_ | refine wU ?_ | refine wCp ?_ | refine wCp0 ?_ | refine wApz ?_ | (refine wCap ?_; intro qc hqc)) | refine evDone ?_ | ((fail_if_success with_reducible show AW _ _ _ _ _); show AW _ _ _ _ _))
      clear hF
      try (show AW _ _ _ _ _)
      refine ⟨i + 1, ⟨by omega, fun j hj => ?_⟩, by omega, ?_⟩
      · by_cases hji : j = i
        · rw [hji, hkk]; exact fun e => hkp (by injection e)
        · exact hno j (by omega)
      · refine Fit.mk _ _ _ (by simp [hw, conv2, newEmp, convs_refl, convs, conv]) (by simp [hw, heapFit, newEmp, conv2s, conv2, convs_refl, convs, conv]) (by intro q hq; first | (simp at hq; done) | (simp at hq; omega) | (simp at hq; simp; omega))
  · have hltk : ¬ (i : Int) < ks.length := by omega
    have hne : ¬ ks[pos]? = some p := by
      intro e
      have : pos < ks.length := (List.getElem?_eq_some_iff.1 e).1
      exact hno pos (by omega) e
    repeat refine AW.seq ?_
    refine AW.reg ?_
    have hF := hltk
    repeat ((with_reducible show evIs _ (_ :: _) _ _); first | refine wQ ?_ | refine wF ?_ | refine wG ?_ | refine wT ?_ | refine wM ?_ | refine wS ?_ | refine wP ?_)
    clear hF
    repeat refine evDone ?_
    try (show AW _ _ _ _ _)
    repeat refine AW.seq ?_
    refine AW.condF (by simp [hltk]) (by simp [hltk]) ?_
    refine AW.exit ?_
    show AW _ _ _ _ _
    have hF := True.intro
    repeat (first | ((with_reducible show AW _ _ _ _ _); first | refine AW.seq ?_ | refine AW.block ?_ | refine AW.reg ?_ | refine AW.draw ?_ | refine wct ?_ | refine wcf ?_ | (refine AW.skip ?_; show AW _ _ _ _ _)) | refine wD1 ?_ | refine wD2 ?_ | refine wE1 ?_ | refine wE2 ?_ | (refine wE3 ?_; intro _) | (refine wE4 ?_; intro _) | refine wN ?_ | ((with_reducible show evIs _ (_ :: _) _ _); first | refine wQ ?_ | refine wF ?_ | refine wG ?_ | refine wT ?_ | refine wM ?_ | refine wS ?_ | refine wP ?_ | refine wJ ?_ | refine wX ?_ | refine wY ?_ | refine wZ ?_ | refine wU ?_ | refine wCp ?_ | refine wCp0 ?_ | refine wApz ?_ | (refine wCap ?_; intro qc hqc)) | refine evDone ?_ | ((fail_if_success with_reducible show AW _ _ _ _ _); show AW _ _ _ _ _))
    clear hF
    try (show AW _ _ _ _ _)
    simp only [hne, if_false]
    cases is[pos]?
    · refine AW.ret (retI rfl ?_)
      simp [a74_res, resOk, resP, resV, ARes.op, R2s, R2, R1s, R1, closeOk, closeV]
    · refine AW.ret (retI rfl ?_)
      simp [a74_res, resOk, resP, resV, ARes.op, R2s, R2, R1s, R1, closeOk, closeV]
end Go.Proofs.Ytdnpnokplfemfaa

set_option linter.unusedSimpArgs false
set_option linter.unusedVariables false
set_option maxHeartbeats 8000000
namespace Go.Proofs.Ytdnpnokplfemfaa
open Go Go.Amb Go.IntWalk

theorem wf_map {n : Int} {t : ByteArray} {is : List Val} {ks : List ByteArray} (h : wfV true (.mk 5 n t is ks) = true) : n = 0 ∧ t = ⟨#[]⟩ ∧ ks.length = is.length ∧ rising ks = true := by
  simp [wfV, wfN] at h
  exact ⟨h.1.1, h.1.2.1, h.1.2.2.1, h.1.2.2.2⟩
/-- What both Gets give at a map. -/
abbrev getR (is : List Val) (ks : List ByteArray) (p : ByteArray) : AV := match is[posK ks p]? with | some x => (if ks[posK ks p]? = some p then .tup [x.av, .bool true] else .tup [.agg [.int .i64 0, .int .i64 0, .str ⟨#[]⟩, .sl .fro [], .sl .fro []], .bool false]) | none => .tup [.agg [.int .i64 0, .int .i64 0, .str ⟨#[]⟩, .sl .fro [], .sl .fro []], .bool false]
theorem getR_yes {is : List Val} {ks : List ByteArray} {p : ByteArray} (hlen : ks.length = is.length) (h : ks[posK ks p]? = some p) : ∃ x, is[posK ks p]? = some x ∧ getR is ks p = .tup [x.av, .bool true] := by
  have : posK ks p < ks.length := (List.getElem?_eq_some_iff.1 h).1
  refine ⟨_, List.getElem?_eq_getElem (by omega), ?_⟩
  simp only [getR, List.getElem?_eq_getElem (show posK ks p < is.length by omega), h, if_true]
theorem getR_no {is : List Val} {ks : List ByteArray} {p : ByteArray} (h : ¬ ks[posK ks p]? = some p) : getR is ks p = .tup [.agg [.int .i64 0, .int .i64 0, .str ⟨#[]⟩, .sl .fro [], .sl .fro []], .bool false] := by
  simp only [getR, h, if_false]
  cases is[posK ks p]? <;> rfl

theorem f51n (k n : Int) (t : ByteArray) (is : List Val) (ks : List ByteArray) (p : ByteArray) (hok : (Val.mk k n t is ks).okv) (h : ¬ (k = 5 ∧ wfV true (.mk k n t is ks) = true)) : ACall Try.prog 51 [.agg [.int .i64 k, .int .i64 n, .str t, .sl .fro (avs is), .sl .fro (ks.map .str)], .str p] (· = .tup [.agg [.int .i64 0, .int .i64 0, .str ⟨#[]⟩, .sl .fro [], .sl .fro []], .bool false]) := by
  refine a51_of (by simp) ?_
  by_cases hk : k = 5
  · have hw : wfV true (.mk k n t is ks) = false := by simpa [hk] using h
    have h15 := f15 _ hok
    rw [hw] at h15
    simp only [Val.av] at h15
    subst hk
    have hF := True.intro
    repeat (first | ((with_reducible show AW _ _ _ _ _); first | refine AW.seq ?_ | refine AW.block ?_ | refine AW.reg ?_ | refine AW.draw ?_ | refine wct ?_ | refine wcf ?_ | (refine AW.skip ?_; show AW _ _ _ _ _)) | refine wD1 ?_ | refine wD2 ?_ | refine wE1 ?_ | refine wE2 ?_ | (refine wE3 ?_; intro _) | (refine wE4 ?_; intro _) | refine wN ?_ | ((with_reducible show evIs _ (_ :: _) _ _); first | refine wQ ?_ | refine wF ?_ | refine wG ?_ | refine wT ?_ | refine wM ?_ | refine wS ?_ | refine wP ?_ | refine wJ ?_ | refine wX ?_ | refine wY ?_ | refine wZ ?_ | refine wU ?_ | refine wCp ?_ | refine wCp0 ?_ | refine wApz ?_ | (refine wCap ?_; intro qc hqc)) | refine evDone ?_ | ((fail_if_success with_reducible show AW _ _ _ _ _); show AW _ _ _ _ _))
    clear hF
    try (show AW _ _ _ _ _)
    have hF := True.intro
    refine wC (hA := h15) ?_
    clear hF
    have hF := True.intro
    repeat (first | ((with_reducible show AW _ _ _ _ _); first | refine AW.seq ?_ | refine AW.block ?_ | refine AW.reg ?_ | refine AW.draw ?_ | refine wct ?_ | refine wcf ?_ | (refine AW.skip ?_; show AW _ _ _ _ _)) | refine wD1 ?_ | refine wD2 ?_ | refine wE1 ?_ | refine wE2 ?_ | (refine wE3 ?_; intro _) | (refine wE4 ?_; intro _) | refine wN ?_ | ((with_reducible show evIs _ (_ :: _) _ _); first | refine wQ ?_ | refine wF ?_ | refine wG ?_ | refine wT ?_ | refine wM ?_ | refine wS ?_ | refine wP ?_ | refine wJ ?_ | refine wX ?_ | refine wY ?_ | refine wZ ?_ | refine wU ?_ | refine wCp ?_ | refine wCp0 ?_ | refine wApz ?_ | (refine wCap ?_; intro qc hqc)) | refine evDone ?_ | ((fail_if_success with_reducible show AW _ _ _ _ _); show AW _ _ _ _ _))
    clear hF
    try (show AW _ _ _ _ _)
    refine AW.ret (retI rfl ?_)
    simp [a51_res, resOk, resP, resV, ARes.op, R2s, R2, R1s, R1, closeOk, closeV]
  · have hF := hk
    repeat (first | ((with_reducible show AW _ _ _ _ _); first | refine AW.seq ?_ | refine AW.block ?_ | refine AW.reg ?_ | refine AW.draw ?_ | refine wct ?_ | refine wcf ?_ | (refine AW.skip ?_; show AW _ _ _ _ _)) | refine wD1 ?_ | refine wD2 ?_ | refine wE1 ?_ | refine wE2 ?_ | (refine wE3 ?_; intro _) | (refine wE4 ?_; intro _) | refine wN ?_ | ((with_reducible show evIs _ (_ :: _) _ _); first | refine wQ ?_ | refine wF ?_ | refine wG ?_ | refine wT ?_ | refine wM ?_ | refine wS ?_ | refine wP ?_ | refine wJ ?_ | refine wX ?_ | refine wY ?_ | refine wZ ?_ | refine wU ?_ | refine wCp ?_ | refine wCp0 ?_ | refine wApz ?_ | (refine wCap ?_; intro qc hqc)) | refine evDone ?_ | ((fail_if_success with_reducible show AW _ _ _ _ _); show AW _ _ _ _ _))
    clear hF
    try (show AW _ _ _ _ _)
    refine AW.ret (retI rfl ?_)
    simp [a51_res, resOk, resP, resV, ARes.op, R2s, R2, R1s, R1, closeOk, closeV]
theorem f51y (is : List Val) (ks : List ByteArray) (p : ByteArray) (hok : (Val.mk 5 0 ⟨#[]⟩ is ks).okv) (hw : wfV true (.mk 5 0 ⟨#[]⟩ is ks) = true) (hb : is.length ≤ 1000000) : ACall Try.prog 51 [.agg [.int .i64 5, .int .i64 0, .str ⟨#[]⟩, .sl .fro (avs is), .sl .fro (ks.map .str)], .str p] (· = getR is ks p) := by
  have h15 := f15 _ hok
  rw [hw] at h15
  simp only [Val.av] at h15
  obtain ⟨-, -, hlen, hr⟩ := wf_map hw
  have h74 := f74 is ks p hr hlen hb
  refine a51_of (by simp) ?_
  by_cases hf : ks[posK ks p]? = some p
  · obtain ⟨x, hx, he⟩ := getR_yes (is := is) hlen hf
    rw [he]
    have h74' : ACall Try.prog 74 [.agg [.int .i64 5, .int .i64 0, .str ⟨#[]⟩, .sl .fro (avs is), .sl .fro (ks.map .str)], .str p] (· = .tup [x.av, .bool true]) := he ▸ h74
    obtain ⟨yk, yn, yt, yi, ys⟩ := x
    simp only [Val.av] at h74' ⊢
    have hF := True.intro
    repeat (first | ((with_reducible show AW _ _ _ _ _); first | refine AW.seq ?_ | refine AW.block ?_ | refine AW.reg ?_ | refine AW.draw ?_ | refine wct ?_ | refine wcf ?_ | (refine AW.skip ?_; show AW _ _ _ _ _)) | refine wD1 ?_ | refine wD2 ?_ | refine wE1 ?_ | refine wE2 ?_ | (refine wE3 ?_; intro _) | (refine wE4 ?_; intro _) | refine wN ?_ | ((with_reducible show evIs _ (_ :: _) _ _); first | refine wQ ?_ | refine wF ?_ | refine wG ?_ | refine wT ?_ | refine wM ?_ | refine wS ?_ | refine wP ?_ | refine wJ ?_ | refine wX ?_ | refine wY ?_ | refine wZ ?_ | refine wU ?_ | refine wCp ?_ | refine wCp0 ?_ | refine wApz ?_ | (refine wCap ?_; intro qc hqc)) | refine evDone ?_ | ((fail_if_success with_reducible show AW _ _ _ _ _); show AW _ _ _ _ _))
    clear hF
    try (show AW _ _ _ _ _)
    have hF := True.intro
    refine wC (hA := h15) ?_
    clear hF
    have hF := True.intro
    repeat (first | ((with_reducible show AW _ _ _ _ _); first | refine AW.seq ?_ | refine AW.block ?_ | refine AW.reg ?_ | refine AW.draw ?_ | refine wct ?_ | refine wcf ?_ | (refine AW.skip ?_; show AW _ _ _ _ _)) | refine wD1 ?_ | refine wD2 ?_ | refine wE1 ?_ | refine wE2 ?_ | (refine wE3 ?_; intro _) | (refine wE4 ?_; intro _) | refine wN ?_ | ((with_reducible show evIs _ (_ :: _) _ _); first | refine wQ ?_ | refine wF ?_ | refine wG ?_ | refine wT ?_ | refine wM ?_ | refine wS ?_ | refine wP ?_ | refine wJ ?_ | refine wX ?_ | refine wY ?_ | refine wZ ?_ | refine wU ?_ | refine wCp ?_ | refine wCp0 ?_ | refine wApz ?_ | (refine wCap ?_; intro qc hqc)) | refine evDone ?_ | ((fail_if_success with_reducible show AW _ _ _ _ _); show AW _ _ _ _ _))
    clear hF
    try (show AW _ _ _ _ _)
    refine evC rfl rfl rfl rfl (by conv => lhs; (try simp [clC_avs])) (by conv => lhs; (try simp [clC_avs, fzB, fzQ])) (h74') (by conv => lhs; (try simp [clC_avs, fzB, fzQ])) ?_ ?_ ?_
    (focus (simp [clC_avs]; done))
    (focus (simp [clC_avs, okB, okQ, noF, sc, scs]; done))
    have hF := True.intro
    repeat (first | ((with_reducible show AW _ _ _ _ _); first | refine AW.seq ?_ | refine AW.block ?_ | refine AW.reg ?_ | refine AW.draw ?_ | refine wct ?_ | refine wcf ?_ | (refine AW.skip ?_; show AW _ _ _ _ _)) | refine wD1 ?_ | refine wD2 ?_ | refine wE1 ?_ | refine wE2 ?_ | (refine wE3 ?_; intro _) | (refine wE4 ?_; intro _) | refine wN ?_ | ((with_reducible show evIs _ (_ :: _) _ _); first | refine wQ ?_ | refine wF ?_ | refine wG ?_ | refine wT ?_ | refine wM ?_ | refine wS ?_ | refine wP ?_ | refine wJ ?_ | refine wX ?_ | refine wY ?_ | refine wZ ?_ | refine wU ?_ | refine wCp ?_ | refine wCp0 ?_ | refine wApz ?_ | (refine wCap ?_; intro qc hqc)) | refine evDone ?_ | ((fail_if_success with_reducible show AW _ _ _ _ _); show AW _ _ _ _ _))
    clear hF
    try (show AW _ _ _ _ _)
    refine AW.ret (retI rfl ?_)
    simp [a51_res, resOk, resP, resV, ARes.op, R2s, R2, R1s, R1, closeOk, closeV]
  · rw [getR_no hf]
    have h74' : ACall Try.prog 74 [.agg [.int .i64 5, .int .i64 0, .str ⟨#[]⟩, .sl .fro (avs is), .sl .fro (ks.map .str)], .str p] (· = .tup [.agg [.int .i64 0, .int .i64 0, .str ⟨#[]⟩, .sl .fro [], .sl .fro []], .bool false]) := getR_no (is := is) hf ▸ h74
    have hF := True.intro
    repeat (first | ((with_reducible show AW _ _ _ _ _); first | refine AW.seq ?_ | refine AW.block ?_ | refine AW.reg ?_ | refine AW.draw ?_ | refine wct ?_ | refine wcf ?_ | (refine AW.skip ?_; show AW _ _ _ _ _)) | refine wD1 ?_ | refine wD2 ?_ | refine wE1 ?_ | refine wE2 ?_ | (refine wE3 ?_; intro _) | (refine wE4 ?_; intro _) | refine wN ?_ | ((with_reducible show evIs _ (_ :: _) _ _); first | refine wQ ?_ | refine wF ?_ | refine wG ?_ | refine wT ?_ | refine wM ?_ | refine wS ?_ | refine wP ?_ | refine wJ ?_ | refine wX ?_ | refine wY ?_ | refine wZ ?_ | refine wU ?_ | refine wCp ?_ | refine wCp0 ?_ | refine wApz ?_ | (refine wCap ?_; intro qc hqc)) | refine evDone ?_ | ((fail_if_success with_reducible show AW _ _ _ _ _); show AW _ _ _ _ _))
    clear hF
    try (show AW _ _ _ _ _)
    have hF := True.intro
    refine wC (hA := h15) ?_
    clear hF
    have hF := True.intro
    repeat (first | ((with_reducible show AW _ _ _ _ _); first | refine AW.seq ?_ | refine AW.block ?_ | refine AW.reg ?_ | refine AW.draw ?_ | refine wct ?_ | refine wcf ?_ | (refine AW.skip ?_; show AW _ _ _ _ _)) | refine wD1 ?_ | refine wD2 ?_ | refine wE1 ?_ | refine wE2 ?_ | (refine wE3 ?_; intro _) | (refine wE4 ?_; intro _) | refine wN ?_ | ((with_reducible show evIs _ (_ :: _) _ _); first | refine wQ ?_ | refine wF ?_ | refine wG ?_ | refine wT ?_ | refine wM ?_ | refine wS ?_ | refine wP ?_ | refine wJ ?_ | refine wX ?_ | refine wY ?_ | refine wZ ?_ | refine wU ?_ | refine wCp ?_ | refine wCp0 ?_ | refine wApz ?_ | (refine wCap ?_; intro qc hqc)) | refine evDone ?_ | ((fail_if_success with_reducible show AW _ _ _ _ _); show AW _ _ _ _ _))
    clear hF
    try (show AW _ _ _ _ _)
    have hF := True.intro
    refine wC (hA := h74') ?_
    clear hF
    have hF := True.intro
    repeat (first | ((with_reducible show AW _ _ _ _ _); first | refine AW.seq ?_ | refine AW.block ?_ | refine AW.reg ?_ | refine AW.draw ?_ | refine wct ?_ | refine wcf ?_ | (refine AW.skip ?_; show AW _ _ _ _ _)) | refine wD1 ?_ | refine wD2 ?_ | refine wE1 ?_ | refine wE2 ?_ | (refine wE3 ?_; intro _) | (refine wE4 ?_; intro _) | refine wN ?_ | ((with_reducible show evIs _ (_ :: _) _ _); first | refine wQ ?_ | refine wF ?_ | refine wG ?_ | refine wT ?_ | refine wM ?_ | refine wS ?_ | refine wP ?_ | refine wJ ?_ | refine wX ?_ | refine wY ?_ | refine wZ ?_ | refine wU ?_ | refine wCp ?_ | refine wCp0 ?_ | refine wApz ?_ | (refine wCap ?_; intro qc hqc)) | refine evDone ?_ | ((fail_if_success with_reducible show AW _ _ _ _ _); show AW _ _ _ _ _))
    clear hF
    try (show AW _ _ _ _ _)
    refine AW.ret (retI rfl ?_)
    simp [a51_res, resOk, resP, resV, ARes.op, R2s, R2, R1s, R1, closeOk, closeV]
theorem f81n (k n : Int) (t : ByteArray) (is : List Val) (ks : List ByteArray) (p : ByteArray) (hok : (Val.mk k n t is ks).okv) (h : ¬ (k = 5 ∧ wfV true (.mk k n t is ks) = true)) : ACall Try.prog 81 [.agg [.int .i64 k, .int .i64 n, .str t, .sl .fro (avs is), .sl .fro (ks.map .str)], .str p] (· = .tup [.int .i64 0, .bool false, .bool false]) := by
  refine a81_of (by simp) ?_
  by_cases hk : k = 5
  · have hw : wfV true (.mk k n t is ks) = false := by simpa [hk] using h
    have h57 := f57 true _ hok
    rw [hw] at h57
    simp only [Val.av] at h57
    subst hk
    have hF := True.intro
    repeat (first | ((with_reducible show AW _ _ _ _ _); first | refine AW.seq ?_ | refine AW.block ?_ | refine AW.reg ?_ | refine AW.draw ?_ | refine wct ?_ | refine wcf ?_ | (refine AW.skip ?_; show AW _ _ _ _ _)) | refine wD1 ?_ | refine wD2 ?_ | refine wE1 ?_ | refine wE2 ?_ | (refine wE3 ?_; intro _) | (refine wE4 ?_; intro _) | refine wN ?_ | ((with_reducible show evIs _ (_ :: _) _ _); first | refine wQ ?_ | refine wF ?_ | refine wG ?_ | refine wT ?_ | refine wM ?_ | refine wS ?_ | refine wP ?_ | refine wJ ?_ | refine wX ?_ | refine wY ?_ | refine wZ ?_ | refine wU ?_ | refine wCp ?_ | refine wCp0 ?_ | refine wApz ?_ | (refine wCap ?_; intro qc hqc)) | refine evDone ?_ | ((fail_if_success with_reducible show AW _ _ _ _ _); show AW _ _ _ _ _))
    clear hF
    try (show AW _ _ _ _ _)
    have hF := True.intro
    refine wC (hA := h57) ?_
    clear hF
    have hF := True.intro
    repeat (first | ((with_reducible show AW _ _ _ _ _); first | refine AW.seq ?_ | refine AW.block ?_ | refine AW.reg ?_ | refine AW.draw ?_ | refine wct ?_ | refine wcf ?_ | (refine AW.skip ?_; show AW _ _ _ _ _)) | refine wD1 ?_ | refine wD2 ?_ | refine wE1 ?_ | refine wE2 ?_ | (refine wE3 ?_; intro _) | (refine wE4 ?_; intro _) | refine wN ?_ | ((with_reducible show evIs _ (_ :: _) _ _); first | refine wQ ?_ | refine wF ?_ | refine wG ?_ | refine wT ?_ | refine wM ?_ | refine wS ?_ | refine wP ?_ | refine wJ ?_ | refine wX ?_ | refine wY ?_ | refine wZ ?_ | refine wU ?_ | refine wCp ?_ | refine wCp0 ?_ | refine wApz ?_ | (refine wCap ?_; intro qc hqc)) | refine evDone ?_ | ((fail_if_success with_reducible show AW _ _ _ _ _); show AW _ _ _ _ _))
    clear hF
    try (show AW _ _ _ _ _)
    refine AW.ret (retI rfl ?_)
    simp [a81_res, resOk, resP, resV, ARes.op, R2s, R2, R1s, R1, closeOk, closeV]
  · have hF := hk
    repeat (first | ((with_reducible show AW _ _ _ _ _); first | refine AW.seq ?_ | refine AW.block ?_ | refine AW.reg ?_ | refine AW.draw ?_ | refine wct ?_ | refine wcf ?_ | (refine AW.skip ?_; show AW _ _ _ _ _)) | refine wD1 ?_ | refine wD2 ?_ | refine wE1 ?_ | refine wE2 ?_ | (refine wE3 ?_; intro _) | (refine wE4 ?_; intro _) | refine wN ?_ | ((with_reducible show evIs _ (_ :: _) _ _); first | refine wQ ?_ | refine wF ?_ | refine wG ?_ | refine wT ?_ | refine wM ?_ | refine wS ?_ | refine wP ?_ | refine wJ ?_ | refine wX ?_ | refine wY ?_ | refine wZ ?_ | refine wU ?_ | refine wCp ?_ | refine wCp0 ?_ | refine wApz ?_ | (refine wCap ?_; intro qc hqc)) | refine evDone ?_ | ((fail_if_success with_reducible show AW _ _ _ _ _); show AW _ _ _ _ _))
    clear hF
    try (show AW _ _ _ _ _)
    refine AW.ret (retI rfl ?_)
    simp [a81_res, resOk, resP, resV, ARes.op, R2s, R2, R1s, R1, closeOk, closeV]
theorem f81y (is : List Val) (ks : List ByteArray) (p : ByteArray) (hok : (Val.mk 5 0 ⟨#[]⟩ is ks).okv) (hw : wfV true (.mk 5 0 ⟨#[]⟩ is ks) = true) (hb : is.length ≤ 1000000) : ACall Try.prog 81 [.agg [.int .i64 5, .int .i64 0, .str ⟨#[]⟩, .sl .fro (avs is), .sl .fro (ks.map .str)], .str p] (· = .tup [.int .i64 (posK ks p), .bool (decide (ks[posK ks p]? = some p)), .bool true]) := by
  have h57 := f57 true _ hok
  rw [hw] at h57
  simp only [Val.av] at h57
  obtain ⟨-, -, hlen, hr⟩ := wf_map hw
  have h108 := f108 ks p (posK ks p) (by omega) (posK_le ks p) (posK_at p ks hr)
  simp only [strs] at h108
  refine a81_of (by simp) ?_
  have hF := True.intro
  repeat (first | ((with_reducible show AW _ _ _ _ _); first | refine AW.seq ?_ | refine AW.block ?_ | refine AW.reg ?_ | refine AW.draw ?_ | refine wct ?_ | refine wcf ?_ | (refine AW.skip ?_; show AW _ _ _ _ _)) | refine wD1 ?_ | refine wD2 ?_ | refine wE1 ?_ | refine wE2 ?_ | (refine wE3 ?_; intro _) | (refine wE4 ?_; intro _) | refine wN ?_ | ((with_reducible show evIs _ (_ :: _) _ _); first | refine wQ ?_ | refine wF ?_ | refine wG ?_ | refine wT ?_ | refine wM ?_ | refine wS ?_ | refine wP ?_ | refine wJ ?_ | refine wX ?_ | refine wY ?_ | refine wZ ?_ | refine wU ?_ | refine wCp ?_ | refine wCp0 ?_ | refine wApz ?_ | (refine wCap ?_; intro qc hqc)) | refine evDone ?_ | ((fail_if_success with_reducible show AW _ _ _ _ _); show AW _ _ _ _ _))
  clear hF
  try (show AW _ _ _ _ _)
  have hF := True.intro
  refine wC (hA := h57) ?_
  clear hF
  have hF := True.intro
  repeat (first | ((with_reducible show AW _ _ _ _ _); first | refine AW.seq ?_ | refine AW.block ?_ | refine AW.reg ?_ | refine AW.draw ?_ | refine wct ?_ | refine wcf ?_ | (refine AW.skip ?_; show AW _ _ _ _ _)) | refine wD1 ?_ | refine wD2 ?_ | refine wE1 ?_ | refine wE2 ?_ | (refine wE3 ?_; intro _) | (refine wE4 ?_; intro _) | refine wN ?_ | ((with_reducible show evIs _ (_ :: _) _ _); first | refine wQ ?_ | refine wF ?_ | refine wG ?_ | refine wT ?_ | refine wM ?_ | refine wS ?_ | refine wP ?_ | refine wJ ?_ | refine wX ?_ | refine wY ?_ | refine wZ ?_ | refine wU ?_ | refine wCp ?_ | refine wCp0 ?_ | refine wApz ?_ | (refine wCap ?_; intro qc hqc)) | refine evDone ?_ | ((fail_if_success with_reducible show AW _ _ _ _ _); show AW _ _ _ _ _))
  clear hF
  try (show AW _ _ _ _ _)
  have hF := True.intro
  refine wC (hA := h108) ?_
  clear hF
  have hF := True.intro
  repeat (first | ((with_reducible show AW _ _ _ _ _); first | refine AW.seq ?_ | refine AW.block ?_ | refine AW.reg ?_ | refine AW.draw ?_ | refine wct ?_ | refine wcf ?_ | (refine AW.skip ?_; show AW _ _ _ _ _)) | refine wD1 ?_ | refine wD2 ?_ | refine wE1 ?_ | refine wE2 ?_ | (refine wE3 ?_; intro _) | (refine wE4 ?_; intro _) | refine wN ?_ | ((with_reducible show evIs _ (_ :: _) _ _); first | refine wQ ?_ | refine wF ?_ | refine wG ?_ | refine wT ?_ | refine wM ?_ | refine wS ?_ | refine wP ?_ | refine wJ ?_ | refine wX ?_ | refine wY ?_ | refine wZ ?_ | refine wU ?_ | refine wCp ?_ | refine wCp0 ?_ | refine wApz ?_ | (refine wCap ?_; intro qc hqc)) | refine evDone ?_ | ((fail_if_success with_reducible show AW _ _ _ _ _); show AW _ _ _ _ _))
  clear hF
  try (show AW _ _ _ _ _)
  refine AW.ret (retI rfl ?_)
  simp [a81_res, resOk, resP, resV, ARes.op, R2s, R2, R1s, R1, closeOk, closeV]
theorem f50n (k n : Int) (t : ByteArray) (is : List Val) (ks : List ByteArray) (p : ByteArray) (hok : (Val.mk k n t is ks).okv) (h : ¬ (k = 5 ∧ wfV true (.mk k n t is ks) = true)) : ACall Try.prog 50 [.agg [.int .i64 k, .int .i64 n, .str t, .sl .fro (avs is), .sl .fro (ks.map .str)], .str p] (· = .tup [.agg [.int .i64 0, .int .i64 0, .str ⟨#[]⟩, .sl .fro [], .sl .fro []], .bool false]) := by
  have h81 := f81n k n t is ks p hok h
  refine a50_of (by simp) ?_
  have hF := True.intro
  repeat (first | ((with_reducible show AW _ _ _ _ _); first | refine AW.seq ?_ | refine AW.block ?_ | refine AW.reg ?_ | refine AW.draw ?_ | refine wct ?_ | refine wcf ?_ | (refine AW.skip ?_; show AW _ _ _ _ _)) | refine wD1 ?_ | refine wD2 ?_ | refine wE1 ?_ | refine wE2 ?_ | (refine wE3 ?_; intro _) | (refine wE4 ?_; intro _) | refine wN ?_ | ((with_reducible show evIs _ (_ :: _) _ _); first | refine wQ ?_ | refine wF ?_ | refine wG ?_ | refine wT ?_ | refine wM ?_ | refine wS ?_ | refine wP ?_ | refine wJ ?_ | refine wX ?_ | refine wY ?_ | refine wZ ?_ | refine wU ?_ | refine wCp ?_ | refine wCp0 ?_ | refine wApz ?_ | (refine wCap ?_; intro qc hqc)) | refine evDone ?_ | ((fail_if_success with_reducible show AW _ _ _ _ _); show AW _ _ _ _ _))
  clear hF
  try (show AW _ _ _ _ _)
  have hF := True.intro
  refine wC (hA := h81) ?_
  clear hF
  have hF := True.intro
  repeat (first | ((with_reducible show AW _ _ _ _ _); first | refine AW.seq ?_ | refine AW.block ?_ | refine AW.reg ?_ | refine AW.draw ?_ | refine wct ?_ | refine wcf ?_ | (refine AW.skip ?_; show AW _ _ _ _ _)) | refine wD1 ?_ | refine wD2 ?_ | refine wE1 ?_ | refine wE2 ?_ | (refine wE3 ?_; intro _) | (refine wE4 ?_; intro _) | refine wN ?_ | ((with_reducible show evIs _ (_ :: _) _ _); first | refine wQ ?_ | refine wF ?_ | refine wG ?_ | refine wT ?_ | refine wM ?_ | refine wS ?_ | refine wP ?_ | refine wJ ?_ | refine wX ?_ | refine wY ?_ | refine wZ ?_ | refine wU ?_ | refine wCp ?_ | refine wCp0 ?_ | refine wApz ?_ | (refine wCap ?_; intro qc hqc)) | refine evDone ?_ | ((fail_if_success with_reducible show AW _ _ _ _ _); show AW _ _ _ _ _))
  clear hF
  try (show AW _ _ _ _ _)
  refine AW.ret (retI rfl ?_)
  simp [a50_res, resOk, resP, resV, ARes.op, R2s, R2, R1s, R1, closeOk, closeV]
theorem f50y (is : List Val) (ks : List ByteArray) (p : ByteArray) (hok : (Val.mk 5 0 ⟨#[]⟩ is ks).okv) (hw : wfV true (.mk 5 0 ⟨#[]⟩ is ks) = true) (hb : is.length ≤ 1000000) : ACall Try.prog 50 [.agg [.int .i64 5, .int .i64 0, .str ⟨#[]⟩, .sl .fro (avs is), .sl .fro (ks.map .str)], .str p] (· = getR is ks p) := by
  have h81 := f81y is ks p hok hw hb
  obtain ⟨-, -, hlen, hr⟩ := wf_map hw
  refine a50_of (by simp) ?_
  by_cases hf : ks[posK ks p]? = some p
  · obtain ⟨x, hx, he⟩ := getR_yes (is := is) hlen hf
    rw [he]
    have hd : decide (ks[posK ks p]? = some p) = true := by simp [hf]
    rw [hd] at h81
    have hlt : posK ks p < is.length := by have := (List.getElem?_eq_some_iff.1 hf).1; omega
    have hlt' : (posK ks p : Int) < is.length := by omega
    have hz : (0 : Int) ≤ posK ks p := by omega
    have hely := elem_map (f := Val.av) hx
    rw [← vals_map] at hely
    have hox : x.okv := by
      simp only [Val.okv] at hok
      exact okvs_mem hok.2.2 (List.mem_of_getElem? hx)
    obtain ⟨yk, yn, yt, yi, ys⟩ := x
    have h20 := f20 yk yn yt yi ys hox
    simp only [Val.av] at hely ⊢
    generalize posK ks p = pos at *
    have hF := True.intro
    repeat (first | ((with_reducible show AW _ _ _ _ _); first | refine AW.seq ?_ | refine AW.block ?_ | refine AW.reg ?_ | refine AW.draw ?_ | refine wct ?_ | refine wcf ?_ | (refine AW.skip ?_; show AW _ _ _ _ _)) | refine wD1 ?_ | refine wD2 ?_ | refine wE1 ?_ | refine wE2 ?_ | (refine wE3 ?_; intro _) | (refine wE4 ?_; intro _) | refine wN ?_ | ((with_reducible show evIs _ (_ :: _) _ _); first | refine wQ ?_ | refine wF ?_ | refine wG ?_ | refine wT ?_ | refine wM ?_ | refine wS ?_ | refine wP ?_ | refine wJ ?_ | refine wX ?_ | refine wY ?_ | refine wZ ?_ | refine wU ?_ | refine wCp ?_ | refine wCp0 ?_ | refine wApz ?_ | (refine wCap ?_; intro qc hqc)) | refine evDone ?_ | ((fail_if_success with_reducible show AW _ _ _ _ _); show AW _ _ _ _ _))
    clear hF
    try (show AW _ _ _ _ _)
    have hF := True.intro
    refine wC (hA := h81) ?_
    clear hF
    have hF := And.intro (hely) (And.intro (hlt) (And.intro (hlt') (hz)))
    repeat (first | ((with_reducible show AW _ _ _ _ _); first | refine AW.seq ?_ | refine AW.block ?_ | refine AW.reg ?_ | refine AW.draw ?_ | refine wct ?_ | refine wcf ?_ | (refine AW.skip ?_; show AW _ _ _ _ _)) | refine wD1 ?_ | refine wD2 ?_ | refine wE1 ?_ | refine wE2 ?_ | (refine wE3 ?_; intro _) | (refine wE4 ?_; intro _) | refine wN ?_ | ((with_reducible show evIs _ (_ :: _) _ _); first | refine wQ ?_ | refine wF ?_ | refine wG ?_ | refine wT ?_ | refine wM ?_ | refine wS ?_ | refine wP ?_ | refine wJ ?_ | refine wX ?_ | refine wY ?_ | refine wZ ?_ | refine wU ?_ | refine wCp ?_ | refine wCp0 ?_ | refine wApz ?_ | (refine wCap ?_; intro qc hqc)) | refine evDone ?_ | ((fail_if_success with_reducible show AW _ _ _ _ _); show AW _ _ _ _ _))
    clear hF
    try (show AW _ _ _ _ _)
    refine evC rfl rfl rfl rfl (by conv => lhs; (try simp [clC_avs])) (by conv => lhs; (try simp [clC_avs, fzB, fzQ])) (h20) (by conv => lhs; (try simp [clC_avs, fzB, fzQ])) ?_ ?_ ?_
    (focus (simp [clC_avs]; done))
    (focus (simp [clC_avs, okB, okQ, noF, sc, scs]; done))
    have hF := True.intro
    repeat (first | ((with_reducible show AW _ _ _ _ _); first | refine AW.seq ?_ | refine AW.block ?_ | refine AW.reg ?_ | refine AW.draw ?_ | refine wct ?_ | refine wcf ?_ | (refine AW.skip ?_; show AW _ _ _ _ _)) | refine wD1 ?_ | refine wD2 ?_ | refine wE1 ?_ | refine wE2 ?_ | (refine wE3 ?_; intro _) | (refine wE4 ?_; intro _) | refine wN ?_ | ((with_reducible show evIs _ (_ :: _) _ _); first | refine wQ ?_ | refine wF ?_ | refine wG ?_ | refine wT ?_ | refine wM ?_ | refine wS ?_ | refine wP ?_ | refine wJ ?_ | refine wX ?_ | refine wY ?_ | refine wZ ?_ | refine wU ?_ | refine wCp ?_ | refine wCp0 ?_ | refine wApz ?_ | (refine wCap ?_; intro qc hqc)) | refine evDone ?_ | ((fail_if_success with_reducible show AW _ _ _ _ _); show AW _ _ _ _ _))
    clear hF
    try (show AW _ _ _ _ _)
    refine AW.ret (retI rfl ?_)
    simp [a50_res, resOk, resP, resV, ARes.op, R2s, R2, R1s, R1, closeOk, closeV]
  · rw [getR_no hf]
    have hd : decide (ks[posK ks p]? = some p) = false := by simp [hf]
    rw [hd] at h81
    have hF := True.intro
    repeat (first | ((with_reducible show AW _ _ _ _ _); first | refine AW.seq ?_ | refine AW.block ?_ | refine AW.reg ?_ | refine AW.draw ?_ | refine wct ?_ | refine wcf ?_ | (refine AW.skip ?_; show AW _ _ _ _ _)) | refine wD1 ?_ | refine wD2 ?_ | refine wE1 ?_ | refine wE2 ?_ | (refine wE3 ?_; intro _) | (refine wE4 ?_; intro _) | refine wN ?_ | ((with_reducible show evIs _ (_ :: _) _ _); first | refine wQ ?_ | refine wF ?_ | refine wG ?_ | refine wT ?_ | refine wM ?_ | refine wS ?_ | refine wP ?_ | refine wJ ?_ | refine wX ?_ | refine wY ?_ | refine wZ ?_ | refine wU ?_ | refine wCp ?_ | refine wCp0 ?_ | refine wApz ?_ | (refine wCap ?_; intro qc hqc)) | refine evDone ?_ | ((fail_if_success with_reducible show AW _ _ _ _ _); show AW _ _ _ _ _))
    clear hF
    try (show AW _ _ _ _ _)
    have hF := True.intro
    refine wC (hA := h81) ?_
    clear hF
    have hF := True.intro
    repeat (first | ((with_reducible show AW _ _ _ _ _); first | refine AW.seq ?_ | refine AW.block ?_ | refine AW.reg ?_ | refine AW.draw ?_ | refine wct ?_ | refine wcf ?_ | (refine AW.skip ?_; show AW _ _ _ _ _)) | refine wD1 ?_ | refine wD2 ?_ | refine wE1 ?_ | refine wE2 ?_ | (refine wE3 ?_; intro _) | (refine wE4 ?_; intro _) | refine wN ?_ | ((with_reducible show evIs _ (_ :: _) _ _); first | refine wQ ?_ | refine wF ?_ | refine wG ?_ | refine wT ?_ | refine wM ?_ | refine wS ?_ | refine wP ?_ | refine wJ ?_ | refine wX ?_ | refine wY ?_ | refine wZ ?_ | refine wU ?_ | refine wCp ?_ | refine wCp0 ?_ | refine wApz ?_ | (refine wCap ?_; intro qc hqc)) | refine evDone ?_ | ((fail_if_success with_reducible show AW _ _ _ _ _); show AW _ _ _ _ _))
    clear hF
    try (show AW _ _ _ _ _)
    refine AW.ret (retI rfl ?_)
    simp [a50_res, resOk, resP, resV, ARes.op, R2s, R2, R1s, R1, closeOk, closeV]
end Go.Proofs.Ytdnpnokplfemfaa
