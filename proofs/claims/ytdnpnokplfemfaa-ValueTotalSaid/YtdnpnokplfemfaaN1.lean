/- The order of values is total. -/
import Derived.Test.YtdnpnokplfemfaaS4
import Derived.Test.YtdnpnokplfemfaaS5
import Derived.Test.YtdnpnokplfemfaaS8

set_option linter.unusedSimpArgs false
set_option linter.unusedVariables false
namespace Go.Proofs.Ytdnpnokplfemfaa
open Go Go.Amb Go.IntWalk

/-- How three comparisons of three things stand. -/
def Tri (p q r : Int) : Prop := (p ≤ 0 → q ≤ 0 → r ≤ 0) ∧ (0 ≤ p → 0 ≤ q → 0 ≤ r) ∧ (p = 0 → r = q) ∧ (q = 0 → r = p) ∧ (r = 0 → q = -p)
theorem tri_lex {p q r P Q R : Int} (h : Tri p q r) (H : p = 0 → q = 0 → Tri P Q R) : Tri (if p = 0 then P else p) (if q = 0 then Q else q) (if r = 0 then R else r) := by
  obtain ⟨a1, a2, a3, a4, a5⟩ := h
  by_cases hp : p = 0
  · by_cases hq : q = 0
    · have hr : r = 0 := by omega
      rw [if_pos hp, if_pos hq, if_pos hr]
      exact H hp hq
    · have hr : ¬ r = 0 := by omega
      rw [if_pos hp, if_neg hq, if_neg hr]
      unfold Tri; omega
  · by_cases hq : q = 0
    · have hr : ¬ r = 0 := by omega
      rw [if_neg hp, if_pos hq, if_neg hr]
      unfold Tri; omega
    · by_cases hr : r = 0
      · rw [if_neg hp, if_neg hq, if_pos hr]
        unfold Tri; omega
      · rw [if_neg hp, if_neg hq, if_neg hr]
        unfold Tri; omega
theorem cmpI_tri (a b c : Int) : Tri (cmpI a b) (cmpI b c) (cmpI a c) := by
  have hc : ∀ x y : Int, (x < y ∧ cmpI x y = -1) ∨ (y < x ∧ cmpI x y = 1) ∨ (x = y ∧ cmpI x y = 0) := by
    intro x y
    unfold cmpI
    by_cases h : x < y
    · exact .inl ⟨h, if_pos h⟩
    · by_cases h' : y < x
      · exact .inr (.inl ⟨h', by rw [if_neg h, if_pos h']⟩)
      · exact .inr (.inr ⟨by omega, by rw [if_neg h, if_neg h']⟩)
  have h1 := hc a b
  have h2 := hc b c
  have h3 := hc a c
  unfold Tri; omega
theorem cmpL_lex (a b : UInt8) (xs ys : List UInt8) : Lib.compareBytes (a :: xs) (b :: ys) = if cmpI a.toNat b.toNat = 0 then Lib.compareBytes xs ys else cmpI a.toNat b.toNat := by
  rw [Lib.compareBytes]
  have h1 : (a < b) ↔ ((a.toNat : Int) < b.toNat) := by rw [UInt8.lt_iff_toNat_lt]; omega
  have h2 : (b < a) ↔ ((b.toNat : Int) < a.toNat) := by rw [UInt8.lt_iff_toNat_lt]; omega
  unfold cmpI
  by_cases h : a < b
  · rw [if_pos h, if_pos (h1.1 h)]; rfl
  · rw [if_neg h, if_neg (fun e => h (h1.2 e))]
    by_cases h' : b < a
    · rw [if_pos h', if_pos (h2.1 h')]; rfl
    · rw [if_neg h', if_neg (fun e => h' (h2.2 e))]; rfl
theorem cmpL_tri : ∀ a b c : List UInt8, Tri (Lib.compareBytes a b) (Lib.compareBytes b c) (Lib.compareBytes a c)
  | [], [], [] => by simp [Tri, Lib.compareBytes]
  | [], [], _ :: _ => by simp [Tri, Lib.compareBytes]
  | [], _ :: _, [] => by simp [Tri, Lib.compareBytes]
  | _ :: _, [], [] => by simp [Tri, Lib.compareBytes]
  | a :: xs, [], c :: cs => by
    have h : Lib.compareBytes (a :: xs) [] = 1 := rfl
    have h' : Lib.compareBytes [] (c :: cs) = -1 := rfl
    rw [h, h']
    unfold Tri
    omega
  | [], b :: bs, c :: cs => by
    have h : Lib.compareBytes [] (b :: bs) = -1 := rfl
    have h' : Lib.compareBytes [] (c :: cs) = -1 := rfl
    rw [h, h']
    have h2 : Lib.compareBytes (b :: bs) (c :: cs) ≤ 1 ∧ -1 ≤ Lib.compareBytes (b :: bs) (c :: cs) := cmpL_rng _ _
    unfold Tri
    omega
  | a :: xs, b :: bs, [] => by
    have h : Lib.compareBytes (b :: bs) [] = 1 := rfl
    have h' : Lib.compareBytes (a :: xs) [] = 1 := rfl
    rw [h, h']
    have h2 : Lib.compareBytes (a :: xs) (b :: bs) ≤ 1 ∧ -1 ≤ Lib.compareBytes (a :: xs) (b :: bs) := cmpL_rng _ _
    unfold Tri
    omega
  | a :: xs, b :: bs, c :: cs => by
    rw [cmpL_lex, cmpL_lex, cmpL_lex]
    exact tri_lex (cmpI_tri _ _ _) fun _ _ => cmpL_tri xs bs cs
where
  cmpL_rng : ∀ a b : List UInt8, Lib.compareBytes a b ≤ 1 ∧ -1 ≤ Lib.compareBytes a b
  | [], [] => by simp [Lib.compareBytes]
  | [], _ :: _ => by simp [Lib.compareBytes]
  | _ :: _, [] => by simp [Lib.compareBytes]
  | a :: xs, b :: ys => by
    have := cmpL_rng xs ys
    rw [Lib.compareBytes]
    split
    · omega
    · split <;> omega
theorem cmpS_tri (a b c : ByteArray) : Tri (cmpS a b) (cmpS b c) (cmpS a c) := cmpL_tri _ _ _
/-- Lists of items, the shorter first. -/
def lexV (m : Bool) (is : List Val) (ks : List ByteArray) (is' : List Val) (ks' : List ByteArray) : Int :=
  if ordsV m is ks is' ks' = 0 then cmpI is.length is'.length else ordsV m is ks is' ks'
theorem lexV_cons (m : Bool) (x : Val) (is : List Val) (ks : List ByteArray) (y : Val) (is' : List Val) (ks' : List ByteArray) :
    lexV m (x :: is) ks (y :: is') ks' = if (if m = true then cmpS (ks.headD ⟨#[]⟩) (ks'.headD ⟨#[]⟩) else 0) = 0 then (if ordV x y = 0 then lexV m is ks.tail is' ks'.tail else ordV x y) else (if m = true then cmpS (ks.headD ⟨#[]⟩) (ks'.headD ⟨#[]⟩) else 0) := by
  have hl : cmpI ((x :: is).length : Int) ((y :: is').length : Int) = cmpI (is.length : Int) (is'.length : Int) := by
    unfold cmpI
    simp only [List.length_cons]
    by_cases h : (is.length : Int) < is'.length
    · rw [if_pos h, if_pos (by omega)]
    · by_cases h' : (is'.length : Int) < is.length
      · rw [if_neg h, if_pos h', if_neg (by omega), if_pos (by omega)]
      · rw [if_neg h, if_neg h', if_neg (by omega), if_neg (by omega)]
  unfold lexV
  rw [hl, ordsV]
  generalize cmpS (ks.headD ⟨#[]⟩) (ks'.headD ⟨#[]⟩) = c
  generalize ordV x y = d
  generalize ordsV m is ks.tail is' ks'.tail = e
  generalize cmpI (is.length : Int) (is'.length : Int) = l
  cases m <;> by_cases hc : c = 0 <;> by_cases hd : d = 0 <;> by_cases he : e = 0 <;> simp [hc, hd, he]
theorem ordV_lex (k n : Int) (t : ByteArray) (is : List Val) (ks : List ByteArray) (k' n' : Int) (t' : ByteArray) (is' : List Val) (ks' : List ByteArray) :
    ordV (.mk k n t is ks) (.mk k' n' t' is' ks') = if cmpI k k' = 0 then (if k = 3 then cmpS t t' else if lexV (decide (k = 5)) is ks is' ks' = 0 then cmpI n n' else lexV (decide (k = 5)) is ks is' ks') else cmpI k k' := by
  rw [ordV]
  by_cases hk : k = k'
  · rw [if_pos hk, if_pos (cmpI_zero.2 hk)]
    by_cases h3 : k = 3
    · rw [if_pos h3, if_pos h3]
    · rw [if_neg h3, if_neg h3]
      unfold lexV
      generalize ordsV (decide (k = 5)) is ks is' ks' = e
      by_cases he : e = 0
      · simp only [he, if_true]
      · simp only [he, if_false]
  · rw [if_neg hk, if_neg (fun e => hk (cmpI_zero.1 e))]
theorem lexV_short {m : Bool} {z : Val} {is2 : List Val} (ks ks2 : List ByteArray) : lexV m [] ks (z :: is2) ks2 = -1 := by
  unfold lexV
  rw [ordsV, if_pos rfl]
  unfold cmpI
  rw [if_pos (by simp only [List.length_nil, List.length_cons]; omega)]
theorem lexV_long {m : Bool} {z : Val} {is2 : List Val} (ks ks2 : List ByteArray) : lexV m (z :: is2) ks [] ks2 = 1 := by
  unfold lexV
  rw [ordsV, if_pos rfl]
  unfold cmpI
  rw [if_neg (by simp only [List.length_nil, List.length_cons]; omega), if_pos (by simp only [List.length_nil, List.length_cons]; omega)]
def Rng (p : Int) : Prop := p ≤ 1 ∧ -1 ≤ p
theorem rng_ite {c : Prop} [Decidable c] {p q : Int} (h : Rng p) (h' : Rng q) : Rng (if c then p else q) := by split <;> assumption
theorem cmpI_rng (a b : Int) : Rng (cmpI a b) := by
  unfold cmpI Rng
  split
  · omega
  · split <;> omega
theorem cmpS_rng (a b : ByteArray) : Rng (cmpS a b) := cmpL_tri.cmpL_rng _ _
mutual
theorem ordV_rng : ∀ a b : Val, Rng (ordV a b)
  | .mk k n t is ks, .mk k' n' t' is' ks' => by
    rw [ordV]
    exact rng_ite (rng_ite (cmpS_rng _ _) (rng_ite (rng_ite (cmpI_rng _ _) (cmpI_rng _ _)) (ordsV_rng _ is ks is' ks'))) (cmpI_rng _ _)
theorem ordsV_rng (m : Bool) : ∀ (is : List Val) (ks : List ByteArray) (is' : List Val) (ks' : List ByteArray), Rng (ordsV m is ks is' ks')
  | [], _, _, _ => by rw [ordsV]; unfold Rng; omega
  | _ :: _, _, [], _ => by rw [ordsV]; unfold Rng; omega
  | x :: is, ks, y :: is', ks' => by
    rw [ordsV]
    exact rng_ite (cmpS_rng _ _) (rng_ite (ordsV_rng m is ks.tail is' ks'.tail) (ordV_rng x y))
end
theorem lexV_rng (m : Bool) (is : List Val) (ks : List ByteArray) (is' : List Val) (ks' : List ByteArray) : lexV m is ks is' ks' ≤ 1 ∧ -1 ≤ lexV m is ks is' ks' := rng_ite (cmpI_rng _ _) (ordsV_rng _ _ _ _ _)
mutual
theorem ordV_tri : ∀ a b c : Val, Tri (ordV a b) (ordV b c) (ordV a c)
  | .mk k n t is ks, .mk k' n' t' is' ks', .mk k2 n2 t2 is2 ks2 => by
    rw [ordV_lex, ordV_lex, ordV_lex]
    refine tri_lex (cmpI_tri _ _ _) fun h1 h2 => ?_
    have e1 := cmpI_zero.1 h1
    have e2 := cmpI_zero.1 h2
    subst e1 e2
    by_cases h3 : k = 3
    · simp only [h3, if_true]
      exact cmpS_tri _ _ _
    · simp only [h3, if_false]
      exact tri_lex (lexV_tri _ is ks is' ks' is2 ks2) fun _ _ => cmpI_tri _ _ _
theorem lexV_tri (m : Bool) : ∀ (is : List Val) (ks : List ByteArray) (is' : List Val) (ks' : List ByteArray) (is2 : List Val) (ks2 : List ByteArray), Tri (lexV m is ks is' ks') (lexV m is' ks' is2 ks2) (lexV m is ks is2 ks2)
  | [], ks, [], ks', [], ks2 => by simp [Tri, lexV, ordsV, cmpI]
  | [], ks, [], ks', z :: is2, ks2 => by
    have h1 : lexV m [] ks [] ks' = 0 := by simp [lexV, ordsV, cmpI]
    have h2 : lexV m [] ks' (z :: is2) ks2 = -1 := lexV_short ks' ks2
    have h3 : lexV m [] ks (z :: is2) ks2 = -1 := lexV_short ks ks2
    rw [h1, h2, h3]; unfold Tri; omega
  | [], ks, y :: is', ks', [], ks2 => by
    have h1 : lexV m [] ks (y :: is') ks' = -1 := lexV_short ks ks'
    have h2 : lexV m (y :: is') ks' [] ks2 = 1 := lexV_long ks' ks2
    have h3 : lexV m [] ks [] ks2 = 0 := by simp [lexV, ordsV, cmpI]
    rw [h1, h2, h3]; unfold Tri; omega
  | x :: is, ks, [], ks', [], ks2 => by
    have h1 : lexV m (x :: is) ks [] ks' = 1 := lexV_long ks ks'
    have h2 : lexV m [] ks' [] ks2 = 0 := by simp [lexV, ordsV, cmpI]
    have h3 : lexV m (x :: is) ks [] ks2 = 1 := lexV_long ks ks2
    rw [h1, h2, h3]; unfold Tri; omega
  | x :: is, ks, [], ks', z :: is2, ks2 => by
    have h1 : lexV m (x :: is) ks [] ks' = 1 := lexV_long ks ks'
    have h2 : lexV m [] ks' (z :: is2) ks2 = -1 := lexV_short ks' ks2
    rw [h1, h2]; unfold Tri; omega
  | [], ks, y :: is', ks', z :: is2, ks2 => by
    have h1 : lexV m [] ks (y :: is') ks' = -1 := lexV_short ks ks'
    have h3 : lexV m [] ks (z :: is2) ks2 = -1 := lexV_short ks ks2
    have h4 := lexV_rng m (y :: is') ks' (z :: is2) ks2
    rw [h1, h3]; unfold Tri; omega
  | x :: is, ks, y :: is', ks', [], ks2 => by
    have h2 : lexV m (y :: is') ks' [] ks2 = 1 := lexV_long ks' ks2
    have h3 : lexV m (x :: is) ks [] ks2 = 1 := lexV_long ks ks2
    have h4 := lexV_rng m (x :: is) ks (y :: is') ks'
    rw [h2, h3]; unfold Tri; omega
  | x :: is, ks, y :: is', ks', z :: is2, ks2 => by
    rw [lexV_cons, lexV_cons, lexV_cons]
    refine tri_lex ?_ fun _ _ => tri_lex (ordV_tri x y z) fun _ _ => lexV_tri m is ks.tail is' ks'.tail is2 ks2.tail
    cases m with
    | false => simp [Tri]
    | true => simp only [if_true]; exact cmpS_tri _ _ _
end
end Go.Proofs.Ytdnpnokplfemfaa

set_option linter.unusedSimpArgs false
set_option linter.unusedVariables false
set_option maxHeartbeats 8000000
namespace Go.Proofs.Ytdnpnokplfemfaa
open Go Go.Amb Go.IntWalk

mutual
theorem ordV_refl : ∀ v : Val, ordV v v = 0
  | .mk k n t is ks => by
    rw [ordV, if_pos rfl, ordsV_refl _ is ks, if_pos rfl, if_pos (cmpI_zero.2 rfl), cmpS_zero.2 rfl, cmpI_zero.2 rfl]
    split <;> rfl
theorem ordsV_refl (m : Bool) : ∀ (is : List Val) (ks : List ByteArray), ordsV m is ks is ks = 0
  | [], _ => by rw [ordsV]
  | x :: is, ks => by
    rw [ordsV, if_neg (fun h => h.2 (cmpS_zero.2 rfl)), if_pos (ordV_refl x), ordsV_refl m is ks.tail]
end
theorem wf_nokeys {f : Bool} {k n : Int} {t : ByteArray} {is : List Val} {ks : List ByteArray} (h : wfV f (.mk k n t is ks) = true) (h5 : k ≠ 5) : ks = [] := by
  rw [wfV, Bool.and_eq_true] at h
  have h := h.1
  unfold wfN at h
  by_cases k0 : k = 0
  · subst k0; simp at h; simp [h]
  by_cases k1 : k = 1
  · subst k1; simp at h; simp [h]
  by_cases k2 : k = 2
  · subst k2; simp at h; simp [h]
  by_cases k3 : k = 3
  · subst k3; simp at h; simp [h]
  by_cases k4 : k = 4
  · subst k4; simp at h; simp [h]
  by_cases k6 : k = 6
  · subst k6; simp at h; simp [h]
  simp [k0, k1, k2, k3, k4, h5, k6] at h
mutual
theorem ordV_eq : ∀ {v w : Val}, wfV true v = true → wfV true w = true → ordV v w = 0 → v = w
  | .mk k n t is ks, .mk k' n' t' is' ks', hv, hw, h => by
    rw [ordV] at h
    by_cases hk : k = k'
    · subst hk
      rw [if_pos rfl] at h
      by_cases h3 : k = 3
      · rw [if_pos h3] at h
        have ht := cmpS_zero.1 h
        obtain ⟨a1, a2⟩ := wf_text hv h3
        obtain ⟨b1, b2⟩ := wf_text hw h3
        have c1 := wf_nokeys hv (by omega)
        have c2 := wf_nokeys hw (by omega)
        subst ht a1 a2 b1 b2 c1 c2
        rfl
      · rw [if_neg h3] at h
        by_cases he : ordsV (decide (k = 5)) is ks is' ks' = 0
        · rw [if_pos he] at h
          by_cases hl : cmpI is.length is'.length = 0
          · rw [if_pos hl] at h
            have hn := cmpI_zero.1 h
            have hl' := cmpI_zero.1 hl
            obtain ⟨e1, e2⟩ := ordsV_eq (m := decide (k = 5)) (is := is) (ks := ks) (is' := is') (ks' := ks') (by rw [wfV, Bool.and_eq_true] at hv; exact hv.2) (by rw [wfV, Bool.and_eq_true] at hw; exact hw.2) (by omega) he
            have ht := ((wf_plain hv).2.2 h3).trans ((wf_plain hw).2.2 h3).symm
            have hks : ks = ks' := by
              by_cases h5 : k = 5
              · exact e2 (by simp [h5]) (wf_keys hv h5) (wf_keys hw h5)
              · rw [wf_nokeys hv h5, wf_nokeys hw h5]
            subst e1 hn ht hks
            rfl
          · rw [if_neg hl] at h
            exact absurd h hl
        · rw [if_neg he] at h
          exact absurd h he
    · rw [if_neg hk] at h
      exact absurd (cmpI_zero.1 h) hk
theorem ordsV_eq {m : Bool} : ∀ {is : List Val} {ks : List ByteArray} {is' : List Val} {ks' : List ByteArray}, wfsV true is = true → wfsV true is' = true → is.length = is'.length → ordsV m is ks is' ks' = 0 →
    is = is' ∧ (m = true → ks.length = is.length → ks'.length = is'.length → ks = ks')
  | [], ks, [], ks', _, _, _, _ => ⟨rfl, fun _ h h' => by rw [List.length_eq_zero_iff.1 h, List.length_eq_zero_iff.1 h']⟩
  | [], _, _ :: _, _, _, _, h, _ => by simp at h
  | _ :: _, _, [], _, _, _, h, _ => by simp at h
  | x :: is, ks, y :: is', ks', hv, hw, hl, h => by
    rw [ordsV] at h
    rw [wfsV, Bool.and_eq_true] at hv hw
    by_cases hc : m = true ∧ ¬ cmpS (ks.headD ⟨#[]⟩) (ks'.headD ⟨#[]⟩) = 0
    · rw [if_pos hc] at h
      exact absurd h hc.2
    · rw [if_neg hc] at h
      by_cases hd : ordV x y = 0
      · rw [if_pos hd] at h
        obtain ⟨e1, e2⟩ := ordsV_eq (m := m) hv.2 hw.2 (by simpa using hl) h
        have e3 := ordV_eq hv.1 hw.1 hd
        refine ⟨by rw [e1, e3], fun hm h1 h2 => ?_⟩
        cases ks with
        | nil => simp at h1
        | cons a ks =>
          cases ks' with
          | nil => simp at h2
          | cons b ks' =>
            have h4 : cmpS a b = 0 := by
              refine Decidable.byContradiction fun hn => hc ⟨hm, hn⟩
            have e4 : ks = ks' := e2 hm (by simpa using h1) (by simpa using h2)
            rw [cmpS_zero.1 h4, e4]
      · rw [if_neg hd] at h
        exact absurd h hd
end
theorem ordV_neg (v w : Val) : ordV w v = -ordV v w := (ordV_tri v w v).2.2.2.2 (ordV_refl v)
theorem ordV_same {v w : Val} (hv : wfV true v = true) (hw : wfV true w = true) : sameV v w = decide (ordV v w = 0) := by
  cases h : sameV v w with
  | true =>
    have := sameV_eq h
    subst this
    simp [ordV_refl]
  | false =>
    by_cases h0 : ordV v w = 0
    · have := ordV_eq hv hw h0
      subst this
      rw [sameV_refl] at h
      cases h
    · simp [h0]
end Go.Proofs.Ytdnpnokplfemfaa

set_option linter.unusedSimpArgs false
set_option linter.unusedVariables false
set_option maxHeartbeats 8000000
namespace Go.Proofs.Ytdnpnokplfemfaa
open Go Go.Amb Go.IntWalk

theorem f4 (v1 v2 v3 : Val) (ho1 : v1.okv) (ho2 : v2.okv) (ho3 : v3.okv) : ACall Try.prog 4 [v1.av, v2.av, v3.av] (· = .bool true) := by
  have hw := works
  have h111 := f11 v1 ho1 300 (by omega) (by omega)
  have h112 := f11 v2 ho2 300 (by omega) (by omega)
  have h113 := f11 v3 ho3 300 (by omega) (by omega)
  have h151 := f15 v1 ho1
  have h152 := f15 v2 ho2
  have h153 := f15 v3 ho3
  have hwr : IntKind.i64.wrap 1 = 1 ∧ IntKind.i64.wrap 2 = 2 ∧ IntKind.i64.wrap 3 = 3 := by decide
  have d12 : wfV true v1 = true → wfV true v2 = true → ACall Try.prog 13 [v1.av, v2.av] (· = .int .i64 (ordV v1 v2)) := fun a b => by have := f13 v1 v2 ho1 ho2; rwa [if_pos ⟨a, b⟩] at this
  have d21 : wfV true v2 = true → wfV true v1 = true → ACall Try.prog 13 [v2.av, v1.av] (· = .int .i64 (ordV v2 v1)) := fun a b => by have := f13 v2 v1 ho2 ho1; rwa [if_pos ⟨a, b⟩] at this
  have d23 : wfV true v2 = true → wfV true v3 = true → ACall Try.prog 13 [v2.av, v3.av] (· = .int .i64 (ordV v2 v3)) := fun a b => by have := f13 v2 v3 ho2 ho3; rwa [if_pos ⟨a, b⟩] at this
  have d13 : wfV true v1 = true → wfV true v3 = true → ACall Try.prog 13 [v1.av, v3.av] (· = .int .i64 (ordV v1 v3)) := fun a b => by have := f13 v1 v3 ho1 ho3; rwa [if_pos ⟨a, b⟩] at this
  have h16 := f16 v1 v2 ho1 ho2
  have hlaw : wfV true v1 = true → wfV true v2 = true → sameV v1 v2 = decide (ordV v1 v2 = 0) := ordV_same
  have htr := ordV_tri v1 v2 v3
  have hng := ordV_neg v1 v2
  have hr12 := ordV_rng v1 v2
  generalize decide ((v1.sz : Int) ≤ 300) = b1 at *
  generalize decide ((v2.sz : Int) ≤ 300) = b2 at *
  generalize decide ((v3.sz : Int) ≤ 300) = b3 at *
  generalize wfV true v1 = c1 at *
  generalize wfV true v2 = c2 at *
  generalize wfV true v3 = c3 at *
  generalize sameV v1 v2 = sm at *
  generalize ordV v1 v2 = p at *
  generalize ordV v2 v1 = p' at *
  generalize ordV v2 v3 = q at *
  generalize ordV v1 v3 = r at *
  obtain ⟨k1, n1, t1, i1, s1⟩ := v1
  obtain ⟨k2, n2, t2, i2, s2⟩ := v2
  obtain ⟨k3, n3, t3, i3, s3⟩ := v3
  simp only [Val.av] at h111 h112 h113 h151 h152 h153 d12 d21 d23 d13 h16 ⊢
  clear ho1 ho2 ho3
  refine a4_of (by simp) ?_
  repeat refine AW.seq ?_
  refine AW.reg ?_
  have hF := True.intro
  repeat (first | refine wD1 ?_ | refine wD2 ?_ | refine wE1 ?_ | refine wE2 ?_ | (refine wE3 ?_; intro _) | (refine wE4 ?_; intro _) | refine wN ?_ | ((with_reducible show evIs _ (_ :: _) _ _); first | refine wQ ?_ | refine wF ?_ | refine wG ?_ | refine wT ?_ | refine wM ?_ | refine wS ?_ | refine wP ?_ | refine wJ ?_ | refine wX ?_ | refine wY ?_ | refine wZ ?_))
  clear hF
  repeat refine evDone ?_
  try (show AW _ _ _ _ _)
  repeat refine AW.seq ?_
  refine AW.reg ?_
  have hF := True.intro
  repeat (first | refine wD1 ?_ | refine wD2 ?_ | refine wE1 ?_ | refine wE2 ?_ | (refine wE3 ?_; intro _) | (refine wE4 ?_; intro _) | refine wN ?_ | ((with_reducible show evIs _ (_ :: _) _ _); first | refine wQ ?_ | refine wF ?_ | refine wG ?_ | refine wT ?_ | refine wM ?_ | refine wS ?_ | refine wP ?_ | refine wJ ?_ | refine wX ?_ | refine wY ?_ | refine wZ ?_))
  clear hF
  repeat refine evDone ?_
  try (show AW _ _ _ _ _)
  repeat refine AW.seq ?_
  refine AW.block ?_
  refine AW.loop (fun g : Nat × Nat => g.1 ≤ 3 ∧ 60 ≤ g.2 ∧ (1 ≤ g.1 → b1 = true ∧ c1 = true) ∧ (2 ≤ g.1 → b2 = true ∧ c2 = true) ∧ (3 ≤ g.1 → b3 = true ∧ c3 = true)) (fun g => mkS [(3, .ptr 0 0 0), (4, .ptr 1 0 0), (5, .ptr 2 0 0), (14, .sl .ext [.agg [.int .i64 k1, .int .i64 n1, .str t1, .sl .fro (avs i1), .sl .fro (s1.map .str)], .agg [.int .i64 k2, .int .i64 n2, .str t2, .sl .fro (avs i2), .sl .fro (s2.map .str)], .agg [.int .i64 k3, .int .i64 n3, .str t3, .sl .fro (avs i3), .sl .fro (s3.map .str)]]), (15, .int .i64 3), (16, .int .i64 g.1)] [(0, ⟨5, true, [.agg [.int .i64 k1, .int .i64 n1, .str t1, .sl .fro (avs i1), .sl .fro (s1.map .str)]]⟩), (1, ⟨5, true, [.agg [.int .i64 k2, .int .i64 n2, .str t2, .sl .fro (avs i2), .sl .fro (s2.map .str)]]⟩), (2, ⟨5, true, [.agg [.int .i64 k3, .int .i64 n3, .str t3, .sl .fro (avs i3), .sl .fro (s3.map .str)]]⟩)] g.2) (fun g => 3 - g.1) (0, 60) ⟨by simp, by simp, by simp, by simp, by simp⟩ ?_ ?_
  · refine Fit.mk _ _ _ (by simp [conv2, newEmp, convs_refl, convs, conv]) (by simp [heapFit, newEmp, conv2s, conv2, convs_refl, convs, conv]) (by intro q hq; first | (simp at hq; done) | (simp at hq; omega) | (simp at hq; simp; omega))
  rintro ⟨g, nx⟩ ⟨hg, hnx, q1, q2, q3⟩
  dsimp only at hg hnx q1 q2 q3 ⊢
  have hN : (∀ q, (0 = nx + q) = False) ∧ (∀ q, (nx + q = 0) = False) ∧ (∀ q, (1 = nx + q) = False) ∧ (∀ q, (nx + q = 1) = False) ∧ (∀ q, (2 = nx + q) = False) ∧ (∀ q, (nx + q = 2) = False) ∧ (∀ q, (nx + q < nx) = False) ∧ 0 < nx ∧ 1 < nx ∧ 2 < nx ∧ 0 < nx + 60 ∧ 1 < nx + 60 ∧ 2 < nx + 60 := by
    refine ⟨?_, ?_, ?_, ?_, ?_, ?_, ?_, ?_, ?_, ?_, ?_, ?_, ?_⟩ <;> first | exact fun q => eq_false (by omega) | omega
  have hg4 : g = 0 ∨ g = 1 ∨ g = 2 ∨ g = 3 := by omega
  rcases hg4 with rfl | rfl | rfl | rfl
  · repeat refine AW.seq ?_
    refine AW.reg ?_
    have hF := hN
    repeat (first | refine wD1 ?_ | refine wD2 ?_ | refine wE1 ?_ | refine wE2 ?_ | (refine wE3 ?_; intro _) | (refine wE4 ?_; intro _) | refine wN ?_ | ((with_reducible show evIs _ (_ :: _) _ _); first | refine wQ ?_ | refine wF ?_ | refine wG ?_ | refine wT ?_ | refine wM ?_ | refine wS ?_ | refine wP ?_ | refine wJ ?_ | refine wX ?_ | refine wY ?_ | refine wZ ?_))
    clear hF
    repeat refine evDone ?_
    try (show AW _ _ _ _ _)
    repeat refine AW.seq ?_
    refine AW.condT (by simp []) (by simp []) ?_
    refine AW.skip ?_
    show AW _ _ _ _ _
    refine AW.seq (AW.block ?_)
    repeat refine AW.seq ?_
    refine AW.reg ?_
    have hF := hN
    repeat (first | refine wD1 ?_ | refine wD2 ?_ | refine wE1 ?_ | refine wE2 ?_ | (refine wE3 ?_; intro _) | (refine wE4 ?_; intro _) | refine wN ?_ | ((with_reducible show evIs _ (_ :: _) _ _); first | refine wQ ?_ | refine wF ?_ | refine wG ?_ | refine wT ?_ | refine wM ?_ | refine wS ?_ | refine wP ?_ | refine wJ ?_ | refine wX ?_ | refine wY ?_ | refine wZ ?_))
    clear hF
    repeat refine evDone ?_
    try (show AW _ _ _ _ _)
    repeat refine AW.seq ?_
    refine AW.reg ?_
    have hF := hN
    repeat (first | refine wD1 ?_ | refine wD2 ?_ | refine wE1 ?_ | refine wE2 ?_ | (refine wE3 ?_; intro _) | (refine wE4 ?_; intro _) | refine wN ?_ | ((with_reducible show evIs _ (_ :: _) _ _); first | refine wQ ?_ | refine wF ?_ | refine wG ?_ | refine wT ?_ | refine wM ?_ | refine wS ?_ | refine wP ?_ | refine wJ ?_ | refine wX ?_ | refine wY ?_ | refine wZ ?_))
    clear hF
    repeat refine evDone ?_
    try (show AW _ _ _ _ _)
    have hF := hN
    refine wC (hA := h111) ?_
    clear hF
    cases hb1 : b1 with
    | false =>
      have hF := hN
      repeat (first | refine wD1 ?_ | refine wD2 ?_ | refine wE1 ?_ | refine wE2 ?_ | (refine wE3 ?_; intro _) | (refine wE4 ?_; intro _) | refine wN ?_ | ((with_reducible show evIs _ (_ :: _) _ _); first | refine wQ ?_ | refine wF ?_ | refine wG ?_ | refine wT ?_ | refine wM ?_ | refine wS ?_ | refine wP ?_ | refine wJ ?_ | refine wX ?_ | refine wY ?_ | refine wZ ?_))
      clear hF
      repeat refine evDone ?_
      try (show AW _ _ _ _ _)
      repeat refine AW.seq ?_
      refine AW.condT (by simp []) (by simp []) ?_
      repeat refine AW.seq ?_
      refine AW.reg ?_
      have hF := hN
      repeat (first | refine wD1 ?_ | refine wD2 ?_ | refine wE1 ?_ | refine wE2 ?_ | (refine wE3 ?_; intro _) | (refine wE4 ?_; intro _) | refine wN ?_ | ((with_reducible show evIs _ (_ :: _) _ _); first | refine wQ ?_ | refine wF ?_ | refine wG ?_ | refine wT ?_ | refine wM ?_ | refine wS ?_ | refine wP ?_ | refine wJ ?_ | refine wX ?_ | refine wY ?_ | refine wZ ?_))
      clear hF
      repeat refine evDone ?_
      try (show AW _ _ _ _ _)
      have hF := True.intro
      refine wC (hA := hw) ?_
      clear hF
      have hF := hN
      repeat (first | refine wD1 ?_ | refine wD2 ?_ | refine wE1 ?_ | refine wE2 ?_ | (refine wE3 ?_; intro _) | (refine wE4 ?_; intro _) | refine wN ?_ | ((with_reducible show evIs _ (_ :: _) _ _); first | refine wQ ?_ | refine wF ?_ | refine wG ?_ | refine wT ?_ | refine wM ?_ | refine wS ?_ | refine wP ?_ | refine wJ ?_ | refine wX ?_ | refine wY ?_ | refine wZ ?_))
      clear hF
      repeat refine evDone ?_
      try (show AW _ _ _ _ _)
      refine AW.ret (retI rfl ?_)
      simp [a4_res, resOk, resP, resV, ARes.op, R2s, R2, R1s, R1, closeOk, closeV]
    | true =>
      have hF := hN
      repeat (first | refine wD1 ?_ | refine wD2 ?_ | refine wE1 ?_ | refine wE2 ?_ | (refine wE3 ?_; intro _) | (refine wE4 ?_; intro _) | refine wN ?_ | ((with_reducible show evIs _ (_ :: _) _ _); first | refine wQ ?_ | refine wF ?_ | refine wG ?_ | refine wT ?_ | refine wM ?_ | refine wS ?_ | refine wP ?_ | refine wJ ?_ | refine wX ?_ | refine wY ?_ | refine wZ ?_))
      clear hF
      repeat refine evDone ?_
      try (show AW _ _ _ _ _)
      have hF := hN
      refine wC (hA := h151) ?_
      clear hF
      cases hc1 : c1 with
      | false =>
        have hF := hN
        repeat (first | refine wD1 ?_ | refine wD2 ?_ | refine wE1 ?_ | refine wE2 ?_ | (refine wE3 ?_; intro _) | (refine wE4 ?_; intro _) | refine wN ?_ | ((with_reducible show evIs _ (_ :: _) _ _); first | refine wQ ?_ | refine wF ?_ | refine wG ?_ | refine wT ?_ | refine wM ?_ | refine wS ?_ | refine wP ?_ | refine wJ ?_ | refine wX ?_ | refine wY ?_ | refine wZ ?_))
        clear hF
        repeat refine evDone ?_
        try (show AW _ _ _ _ _)
        repeat refine AW.seq ?_
        refine AW.condT (by simp []) (by simp []) ?_
        repeat refine AW.seq ?_
        refine AW.reg ?_
        have hF := hN
        repeat (first | refine wD1 ?_ | refine wD2 ?_ | refine wE1 ?_ | refine wE2 ?_ | (refine wE3 ?_; intro _) | (refine wE4 ?_; intro _) | refine wN ?_ | ((with_reducible show evIs _ (_ :: _) _ _); first | refine wQ ?_ | refine wF ?_ | refine wG ?_ | refine wT ?_ | refine wM ?_ | refine wS ?_ | refine wP ?_ | refine wJ ?_ | refine wX ?_ | refine wY ?_ | refine wZ ?_))
        clear hF
        repeat refine evDone ?_
        try (show AW _ _ _ _ _)
        have hF := True.intro
        refine wC (hA := hw) ?_
        clear hF
        have hF := hN
        repeat (first | refine wD1 ?_ | refine wD2 ?_ | refine wE1 ?_ | refine wE2 ?_ | (refine wE3 ?_; intro _) | (refine wE4 ?_; intro _) | refine wN ?_ | ((with_reducible show evIs _ (_ :: _) _ _); first | refine wQ ?_ | refine wF ?_ | refine wG ?_ | refine wT ?_ | refine wM ?_ | refine wS ?_ | refine wP ?_ | refine wJ ?_ | refine wX ?_ | refine wY ?_ | refine wZ ?_))
        clear hF
        repeat refine evDone ?_
        try (show AW _ _ _ _ _)
        refine AW.ret (retI rfl ?_)
        simp [a4_res, resOk, resP, resV, ARes.op, R2s, R2, R1s, R1, closeOk, closeV]
      | true =>
        have hF := hN
        repeat (first | refine wD1 ?_ | refine wD2 ?_ | refine wE1 ?_ | refine wE2 ?_ | (refine wE3 ?_; intro _) | (refine wE4 ?_; intro _) | refine wN ?_ | ((with_reducible show evIs _ (_ :: _) _ _); first | refine wQ ?_ | refine wF ?_ | refine wG ?_ | refine wT ?_ | refine wM ?_ | refine wS ?_ | refine wP ?_ | refine wJ ?_ | refine wX ?_ | refine wY ?_ | refine wZ ?_))
        clear hF
        repeat refine evDone ?_
        try (show AW _ _ _ _ _)
        repeat refine AW.seq ?_
        refine AW.condF (by simp []) (by simp []) ?_
        refine AW.skip ?_
        show AW _ _ _ _ _
        refine AW.reg ?_
        have hF := hwr
        repeat (first | refine wD1 ?_ | refine wD2 ?_ | refine wE1 ?_ | refine wE2 ?_ | (refine wE3 ?_; intro _) | (refine wE4 ?_; intro _) | refine wN ?_ | ((with_reducible show evIs _ (_ :: _) _ _); first | refine wQ ?_ | refine wF ?_ | refine wG ?_ | refine wT ?_ | refine wM ?_ | refine wS ?_ | refine wP ?_ | refine wJ ?_ | refine wX ?_ | refine wY ?_ | refine wZ ?_))
        clear hF
        repeat refine evDone ?_
        try (show AW _ _ _ _ _)
        refine ⟨(1, nx + 60), ⟨by dsimp only; omega, by dsimp only; omega, ?_, ?_, ?_⟩, by dsimp only; omega, ?_⟩
        · exact fun _ => ⟨rfl, rfl⟩
        · intro h; (try dsimp only at h); omega
        · intro h; (try dsimp only at h); omega
        refine Fit.mk _ _ _ (by simp [hwr, hN, conv2, newEmp, convs_refl, convs, conv]) (by simp [hwr, hN, heapFit, newEmp, conv2s, conv2, convs_refl, convs, conv]) (by intro q hq; first | (simp at hq; done) | (simp at hq; omega) | (simp at hq; simp; omega))
  · repeat refine AW.seq ?_
    refine AW.reg ?_
    have hF := hN
    repeat (first | refine wD1 ?_ | refine wD2 ?_ | refine wE1 ?_ | refine wE2 ?_ | (refine wE3 ?_; intro _) | (refine wE4 ?_; intro _) | refine wN ?_ | ((with_reducible show evIs _ (_ :: _) _ _); first | refine wQ ?_ | refine wF ?_ | refine wG ?_ | refine wT ?_ | refine wM ?_ | refine wS ?_ | refine wP ?_ | refine wJ ?_ | refine wX ?_ | refine wY ?_ | refine wZ ?_))
    clear hF
    repeat refine evDone ?_
    try (show AW _ _ _ _ _)
    repeat refine AW.seq ?_
    refine AW.condT (by simp []) (by simp []) ?_
    refine AW.skip ?_
    show AW _ _ _ _ _
    refine AW.seq (AW.block ?_)
    repeat refine AW.seq ?_
    refine AW.reg ?_
    have hF := hN
    repeat (first | refine wD1 ?_ | refine wD2 ?_ | refine wE1 ?_ | refine wE2 ?_ | (refine wE3 ?_; intro _) | (refine wE4 ?_; intro _) | refine wN ?_ | ((with_reducible show evIs _ (_ :: _) _ _); first | refine wQ ?_ | refine wF ?_ | refine wG ?_ | refine wT ?_ | refine wM ?_ | refine wS ?_ | refine wP ?_ | refine wJ ?_ | refine wX ?_ | refine wY ?_ | refine wZ ?_))
    clear hF
    repeat refine evDone ?_
    try (show AW _ _ _ _ _)
    repeat refine AW.seq ?_
    refine AW.reg ?_
    have hF := hN
    repeat (first | refine wD1 ?_ | refine wD2 ?_ | refine wE1 ?_ | refine wE2 ?_ | (refine wE3 ?_; intro _) | (refine wE4 ?_; intro _) | refine wN ?_ | ((with_reducible show evIs _ (_ :: _) _ _); first | refine wQ ?_ | refine wF ?_ | refine wG ?_ | refine wT ?_ | refine wM ?_ | refine wS ?_ | refine wP ?_ | refine wJ ?_ | refine wX ?_ | refine wY ?_ | refine wZ ?_))
    clear hF
    repeat refine evDone ?_
    try (show AW _ _ _ _ _)
    have hF := hN
    refine wC (hA := h112) ?_
    clear hF
    cases hb2 : b2 with
    | false =>
      have hF := hN
      repeat (first | refine wD1 ?_ | refine wD2 ?_ | refine wE1 ?_ | refine wE2 ?_ | (refine wE3 ?_; intro _) | (refine wE4 ?_; intro _) | refine wN ?_ | ((with_reducible show evIs _ (_ :: _) _ _); first | refine wQ ?_ | refine wF ?_ | refine wG ?_ | refine wT ?_ | refine wM ?_ | refine wS ?_ | refine wP ?_ | refine wJ ?_ | refine wX ?_ | refine wY ?_ | refine wZ ?_))
      clear hF
      repeat refine evDone ?_
      try (show AW _ _ _ _ _)
      repeat refine AW.seq ?_
      refine AW.condT (by simp []) (by simp []) ?_
      repeat refine AW.seq ?_
      refine AW.reg ?_
      have hF := hN
      repeat (first | refine wD1 ?_ | refine wD2 ?_ | refine wE1 ?_ | refine wE2 ?_ | (refine wE3 ?_; intro _) | (refine wE4 ?_; intro _) | refine wN ?_ | ((with_reducible show evIs _ (_ :: _) _ _); first | refine wQ ?_ | refine wF ?_ | refine wG ?_ | refine wT ?_ | refine wM ?_ | refine wS ?_ | refine wP ?_ | refine wJ ?_ | refine wX ?_ | refine wY ?_ | refine wZ ?_))
      clear hF
      repeat refine evDone ?_
      try (show AW _ _ _ _ _)
      have hF := True.intro
      refine wC (hA := hw) ?_
      clear hF
      have hF := hN
      repeat (first | refine wD1 ?_ | refine wD2 ?_ | refine wE1 ?_ | refine wE2 ?_ | (refine wE3 ?_; intro _) | (refine wE4 ?_; intro _) | refine wN ?_ | ((with_reducible show evIs _ (_ :: _) _ _); first | refine wQ ?_ | refine wF ?_ | refine wG ?_ | refine wT ?_ | refine wM ?_ | refine wS ?_ | refine wP ?_ | refine wJ ?_ | refine wX ?_ | refine wY ?_ | refine wZ ?_))
      clear hF
      repeat refine evDone ?_
      try (show AW _ _ _ _ _)
      refine AW.ret (retI rfl ?_)
      simp [a4_res, resOk, resP, resV, ARes.op, R2s, R2, R1s, R1, closeOk, closeV]
    | true =>
      have hF := hN
      repeat (first | refine wD1 ?_ | refine wD2 ?_ | refine wE1 ?_ | refine wE2 ?_ | (refine wE3 ?_; intro _) | (refine wE4 ?_; intro _) | refine wN ?_ | ((with_reducible show evIs _ (_ :: _) _ _); first | refine wQ ?_ | refine wF ?_ | refine wG ?_ | refine wT ?_ | refine wM ?_ | refine wS ?_ | refine wP ?_ | refine wJ ?_ | refine wX ?_ | refine wY ?_ | refine wZ ?_))
      clear hF
      repeat refine evDone ?_
      try (show AW _ _ _ _ _)
      have hF := hN
      refine wC (hA := h152) ?_
      clear hF
      cases hc2 : c2 with
      | false =>
        have hF := hN
        repeat (first | refine wD1 ?_ | refine wD2 ?_ | refine wE1 ?_ | refine wE2 ?_ | (refine wE3 ?_; intro _) | (refine wE4 ?_; intro _) | refine wN ?_ | ((with_reducible show evIs _ (_ :: _) _ _); first | refine wQ ?_ | refine wF ?_ | refine wG ?_ | refine wT ?_ | refine wM ?_ | refine wS ?_ | refine wP ?_ | refine wJ ?_ | refine wX ?_ | refine wY ?_ | refine wZ ?_))
        clear hF
        repeat refine evDone ?_
        try (show AW _ _ _ _ _)
        repeat refine AW.seq ?_
        refine AW.condT (by simp []) (by simp []) ?_
        repeat refine AW.seq ?_
        refine AW.reg ?_
        have hF := hN
        repeat (first | refine wD1 ?_ | refine wD2 ?_ | refine wE1 ?_ | refine wE2 ?_ | (refine wE3 ?_; intro _) | (refine wE4 ?_; intro _) | refine wN ?_ | ((with_reducible show evIs _ (_ :: _) _ _); first | refine wQ ?_ | refine wF ?_ | refine wG ?_ | refine wT ?_ | refine wM ?_ | refine wS ?_ | refine wP ?_ | refine wJ ?_ | refine wX ?_ | refine wY ?_ | refine wZ ?_))
        clear hF
        repeat refine evDone ?_
        try (show AW _ _ _ _ _)
        have hF := True.intro
        refine wC (hA := hw) ?_
        clear hF
        have hF := hN
        repeat (first | refine wD1 ?_ | refine wD2 ?_ | refine wE1 ?_ | refine wE2 ?_ | (refine wE3 ?_; intro _) | (refine wE4 ?_; intro _) | refine wN ?_ | ((with_reducible show evIs _ (_ :: _) _ _); first | refine wQ ?_ | refine wF ?_ | refine wG ?_ | refine wT ?_ | refine wM ?_ | refine wS ?_ | refine wP ?_ | refine wJ ?_ | refine wX ?_ | refine wY ?_ | refine wZ ?_))
        clear hF
        repeat refine evDone ?_
        try (show AW _ _ _ _ _)
        refine AW.ret (retI rfl ?_)
        simp [a4_res, resOk, resP, resV, ARes.op, R2s, R2, R1s, R1, closeOk, closeV]
      | true =>
        have hF := hN
        repeat (first | refine wD1 ?_ | refine wD2 ?_ | refine wE1 ?_ | refine wE2 ?_ | (refine wE3 ?_; intro _) | (refine wE4 ?_; intro _) | refine wN ?_ | ((with_reducible show evIs _ (_ :: _) _ _); first | refine wQ ?_ | refine wF ?_ | refine wG ?_ | refine wT ?_ | refine wM ?_ | refine wS ?_ | refine wP ?_ | refine wJ ?_ | refine wX ?_ | refine wY ?_ | refine wZ ?_))
        clear hF
        repeat refine evDone ?_
        try (show AW _ _ _ _ _)
        repeat refine AW.seq ?_
        refine AW.condF (by simp []) (by simp []) ?_
        refine AW.skip ?_
        show AW _ _ _ _ _
        refine AW.reg ?_
        have hF := hwr
        repeat (first | refine wD1 ?_ | refine wD2 ?_ | refine wE1 ?_ | refine wE2 ?_ | (refine wE3 ?_; intro _) | (refine wE4 ?_; intro _) | refine wN ?_ | ((with_reducible show evIs _ (_ :: _) _ _); first | refine wQ ?_ | refine wF ?_ | refine wG ?_ | refine wT ?_ | refine wM ?_ | refine wS ?_ | refine wP ?_ | refine wJ ?_ | refine wX ?_ | refine wY ?_ | refine wZ ?_))
        clear hF
        repeat refine evDone ?_
        try (show AW _ _ _ _ _)
        refine ⟨(2, nx + 60), ⟨by dsimp only; omega, by dsimp only; omega, ?_, ?_, ?_⟩, by dsimp only; omega, ?_⟩
        · exact fun _ => q1 (by omega)
        · intro h; (try dsimp only at h); exact ⟨rfl, rfl⟩
        · intro h; (try dsimp only at h); omega
        refine Fit.mk _ _ _ (by simp [hwr, hN, conv2, newEmp, convs_refl, convs, conv]) (by simp [hwr, hN, heapFit, newEmp, conv2s, conv2, convs_refl, convs, conv]) (by intro q hq; first | (simp at hq; done) | (simp at hq; omega) | (simp at hq; simp; omega))
  · repeat refine AW.seq ?_
    refine AW.reg ?_
    have hF := hN
    repeat (first | refine wD1 ?_ | refine wD2 ?_ | refine wE1 ?_ | refine wE2 ?_ | (refine wE3 ?_; intro _) | (refine wE4 ?_; intro _) | refine wN ?_ | ((with_reducible show evIs _ (_ :: _) _ _); first | refine wQ ?_ | refine wF ?_ | refine wG ?_ | refine wT ?_ | refine wM ?_ | refine wS ?_ | refine wP ?_ | refine wJ ?_ | refine wX ?_ | refine wY ?_ | refine wZ ?_))
    clear hF
    repeat refine evDone ?_
    try (show AW _ _ _ _ _)
    repeat refine AW.seq ?_
    refine AW.condT (by simp []) (by simp []) ?_
    refine AW.skip ?_
    show AW _ _ _ _ _
    refine AW.seq (AW.block ?_)
    repeat refine AW.seq ?_
    refine AW.reg ?_
    have hF := hN
    repeat (first | refine wD1 ?_ | refine wD2 ?_ | refine wE1 ?_ | refine wE2 ?_ | (refine wE3 ?_; intro _) | (refine wE4 ?_; intro _) | refine wN ?_ | ((with_reducible show evIs _ (_ :: _) _ _); first | refine wQ ?_ | refine wF ?_ | refine wG ?_ | refine wT ?_ | refine wM ?_ | refine wS ?_ | refine wP ?_ | refine wJ ?_ | refine wX ?_ | refine wY ?_ | refine wZ ?_))
    clear hF
    repeat refine evDone ?_
    try (show AW _ _ _ _ _)
    repeat refine AW.seq ?_
    refine AW.reg ?_
    have hF := hN
    repeat (first | refine wD1 ?_ | refine wD2 ?_ | refine wE1 ?_ | refine wE2 ?_ | (refine wE3 ?_; intro _) | (refine wE4 ?_; intro _) | refine wN ?_ | ((with_reducible show evIs _ (_ :: _) _ _); first | refine wQ ?_ | refine wF ?_ | refine wG ?_ | refine wT ?_ | refine wM ?_ | refine wS ?_ | refine wP ?_ | refine wJ ?_ | refine wX ?_ | refine wY ?_ | refine wZ ?_))
    clear hF
    repeat refine evDone ?_
    try (show AW _ _ _ _ _)
    have hF := hN
    refine wC (hA := h113) ?_
    clear hF
    cases hb3 : b3 with
    | false =>
      have hF := hN
      repeat (first | refine wD1 ?_ | refine wD2 ?_ | refine wE1 ?_ | refine wE2 ?_ | (refine wE3 ?_; intro _) | (refine wE4 ?_; intro _) | refine wN ?_ | ((with_reducible show evIs _ (_ :: _) _ _); first | refine wQ ?_ | refine wF ?_ | refine wG ?_ | refine wT ?_ | refine wM ?_ | refine wS ?_ | refine wP ?_ | refine wJ ?_ | refine wX ?_ | refine wY ?_ | refine wZ ?_))
      clear hF
      repeat refine evDone ?_
      try (show AW _ _ _ _ _)
      repeat refine AW.seq ?_
      refine AW.condT (by simp []) (by simp []) ?_
      repeat refine AW.seq ?_
      refine AW.reg ?_
      have hF := hN
      repeat (first | refine wD1 ?_ | refine wD2 ?_ | refine wE1 ?_ | refine wE2 ?_ | (refine wE3 ?_; intro _) | (refine wE4 ?_; intro _) | refine wN ?_ | ((with_reducible show evIs _ (_ :: _) _ _); first | refine wQ ?_ | refine wF ?_ | refine wG ?_ | refine wT ?_ | refine wM ?_ | refine wS ?_ | refine wP ?_ | refine wJ ?_ | refine wX ?_ | refine wY ?_ | refine wZ ?_))
      clear hF
      repeat refine evDone ?_
      try (show AW _ _ _ _ _)
      have hF := True.intro
      refine wC (hA := hw) ?_
      clear hF
      have hF := hN
      repeat (first | refine wD1 ?_ | refine wD2 ?_ | refine wE1 ?_ | refine wE2 ?_ | (refine wE3 ?_; intro _) | (refine wE4 ?_; intro _) | refine wN ?_ | ((with_reducible show evIs _ (_ :: _) _ _); first | refine wQ ?_ | refine wF ?_ | refine wG ?_ | refine wT ?_ | refine wM ?_ | refine wS ?_ | refine wP ?_ | refine wJ ?_ | refine wX ?_ | refine wY ?_ | refine wZ ?_))
      clear hF
      repeat refine evDone ?_
      try (show AW _ _ _ _ _)
      refine AW.ret (retI rfl ?_)
      simp [a4_res, resOk, resP, resV, ARes.op, R2s, R2, R1s, R1, closeOk, closeV]
    | true =>
      have hF := hN
      repeat (first | refine wD1 ?_ | refine wD2 ?_ | refine wE1 ?_ | refine wE2 ?_ | (refine wE3 ?_; intro _) | (refine wE4 ?_; intro _) | refine wN ?_ | ((with_reducible show evIs _ (_ :: _) _ _); first | refine wQ ?_ | refine wF ?_ | refine wG ?_ | refine wT ?_ | refine wM ?_ | refine wS ?_ | refine wP ?_ | refine wJ ?_ | refine wX ?_ | refine wY ?_ | refine wZ ?_))
      clear hF
      repeat refine evDone ?_
      try (show AW _ _ _ _ _)
      have hF := hN
      refine wC (hA := h153) ?_
      clear hF
      cases hc3 : c3 with
      | false =>
        have hF := hN
        repeat (first | refine wD1 ?_ | refine wD2 ?_ | refine wE1 ?_ | refine wE2 ?_ | (refine wE3 ?_; intro _) | (refine wE4 ?_; intro _) | refine wN ?_ | ((with_reducible show evIs _ (_ :: _) _ _); first | refine wQ ?_ | refine wF ?_ | refine wG ?_ | refine wT ?_ | refine wM ?_ | refine wS ?_ | refine wP ?_ | refine wJ ?_ | refine wX ?_ | refine wY ?_ | refine wZ ?_))
        clear hF
        repeat refine evDone ?_
        try (show AW _ _ _ _ _)
        repeat refine AW.seq ?_
        refine AW.condT (by simp []) (by simp []) ?_
        repeat refine AW.seq ?_
        refine AW.reg ?_
        have hF := hN
        repeat (first | refine wD1 ?_ | refine wD2 ?_ | refine wE1 ?_ | refine wE2 ?_ | (refine wE3 ?_; intro _) | (refine wE4 ?_; intro _) | refine wN ?_ | ((with_reducible show evIs _ (_ :: _) _ _); first | refine wQ ?_ | refine wF ?_ | refine wG ?_ | refine wT ?_ | refine wM ?_ | refine wS ?_ | refine wP ?_ | refine wJ ?_ | refine wX ?_ | refine wY ?_ | refine wZ ?_))
        clear hF
        repeat refine evDone ?_
        try (show AW _ _ _ _ _)
        have hF := True.intro
        refine wC (hA := hw) ?_
        clear hF
        have hF := hN
        repeat (first | refine wD1 ?_ | refine wD2 ?_ | refine wE1 ?_ | refine wE2 ?_ | (refine wE3 ?_; intro _) | (refine wE4 ?_; intro _) | refine wN ?_ | ((with_reducible show evIs _ (_ :: _) _ _); first | refine wQ ?_ | refine wF ?_ | refine wG ?_ | refine wT ?_ | refine wM ?_ | refine wS ?_ | refine wP ?_ | refine wJ ?_ | refine wX ?_ | refine wY ?_ | refine wZ ?_))
        clear hF
        repeat refine evDone ?_
        try (show AW _ _ _ _ _)
        refine AW.ret (retI rfl ?_)
        simp [a4_res, resOk, resP, resV, ARes.op, R2s, R2, R1s, R1, closeOk, closeV]
      | true =>
        have hF := hN
        repeat (first | refine wD1 ?_ | refine wD2 ?_ | refine wE1 ?_ | refine wE2 ?_ | (refine wE3 ?_; intro _) | (refine wE4 ?_; intro _) | refine wN ?_ | ((with_reducible show evIs _ (_ :: _) _ _); first | refine wQ ?_ | refine wF ?_ | refine wG ?_ | refine wT ?_ | refine wM ?_ | refine wS ?_ | refine wP ?_ | refine wJ ?_ | refine wX ?_ | refine wY ?_ | refine wZ ?_))
        clear hF
        repeat refine evDone ?_
        try (show AW _ _ _ _ _)
        repeat refine AW.seq ?_
        refine AW.condF (by simp []) (by simp []) ?_
        refine AW.skip ?_
        show AW _ _ _ _ _
        refine AW.reg ?_
        have hF := hwr
        repeat (first | refine wD1 ?_ | refine wD2 ?_ | refine wE1 ?_ | refine wE2 ?_ | (refine wE3 ?_; intro _) | (refine wE4 ?_; intro _) | refine wN ?_ | ((with_reducible show evIs _ (_ :: _) _ _); first | refine wQ ?_ | refine wF ?_ | refine wG ?_ | refine wT ?_ | refine wM ?_ | refine wS ?_ | refine wP ?_ | refine wJ ?_ | refine wX ?_ | refine wY ?_ | refine wZ ?_))
        clear hF
        repeat refine evDone ?_
        try (show AW _ _ _ _ _)
        refine ⟨(3, nx + 60), ⟨by dsimp only; omega, by dsimp only; omega, ?_, ?_, ?_⟩, by dsimp only; omega, ?_⟩
        · exact fun _ => q1 (by omega)
        · intro h; (try dsimp only at h); exact q2 (by omega)
        · intro h; (try dsimp only at h); exact ⟨rfl, rfl⟩
        refine Fit.mk _ _ _ (by simp [hwr, hN, conv2, newEmp, convs_refl, convs, conv]) (by simp [hwr, hN, heapFit, newEmp, conv2s, conv2, convs_refl, convs, conv]) (by intro q hq; first | (simp at hq; done) | (simp at hq; omega) | (simp at hq; simp; omega))
  obtain ⟨rfl, rfl⟩ := q1 (by omega)
  obtain ⟨rfl, rfl⟩ := q2 (by omega)
  obtain ⟨rfl, rfl⟩ := q3 (by omega)
  have d12 := d12 rfl rfl
  have d21 := d21 rfl rfl
  have d23 := d23 rfl rfl
  have d13 := d13 rfl rfl
  have hsm := hlaw rfl rfl
  subst hng
  subst hsm
  have hwp : IntKind.i64.wrap p = p := i64_in _ ⟨by have := hr12.2; omega, by have := hr12.1; omega⟩
  have hpd : ((p == 0) != decide (p = 0)) = false := by by_cases h : p = 0 <;> simp [h]
  have hpe : (p == 0) = decide (p = 0) := by by_cases h : p = 0 <;> simp [h]
  obtain ⟨g1, g2, -, -, -⟩ := htr
  clear q1 q2 q3 hlaw hr12
  repeat refine AW.seq ?_
  refine AW.reg ?_
  have hF := hN
  repeat (first | refine wD1 ?_ | refine wD2 ?_ | refine wE1 ?_ | refine wE2 ?_ | (refine wE3 ?_; intro _) | (refine wE4 ?_; intro _) | refine wN ?_ | ((with_reducible show evIs _ (_ :: _) _ _); first | refine wQ ?_ | refine wF ?_ | refine wG ?_ | refine wT ?_ | refine wM ?_ | refine wS ?_ | refine wP ?_ | refine wJ ?_ | refine wX ?_ | refine wY ?_ | refine wZ ?_))
  clear hF
  repeat refine evDone ?_
  try (show AW _ _ _ _ _)
  repeat refine AW.seq ?_
  refine AW.condF (by simp []) (by simp []) ?_
  refine AW.exit ?_
  show AW _ _ _ _ _
  repeat refine AW.seq ?_
  refine AW.reg ?_
  have hF := hN
  repeat (first | refine wD1 ?_ | refine wD2 ?_ | refine wE1 ?_ | refine wE2 ?_ | (refine wE3 ?_; intro _) | (refine wE4 ?_; intro _) | refine wN ?_ | ((with_reducible show evIs _ (_ :: _) _ _); first | refine wQ ?_ | refine wF ?_ | refine wG ?_ | refine wT ?_ | refine wM ?_ | refine wS ?_ | refine wP ?_ | refine wJ ?_ | refine wX ?_ | refine wY ?_ | refine wZ ?_))
  clear hF
  repeat refine evDone ?_
  try (show AW _ _ _ _ _)
  have hF := hN
  refine wC (hA := d12) ?_
  clear hF
  have hF := hN
  repeat (first | refine wD1 ?_ | refine wD2 ?_ | refine wE1 ?_ | refine wE2 ?_ | (refine wE3 ?_; intro _) | (refine wE4 ?_; intro _) | refine wN ?_ | ((with_reducible show evIs _ (_ :: _) _ _); first | refine wQ ?_ | refine wF ?_ | refine wG ?_ | refine wT ?_ | refine wM ?_ | refine wS ?_ | refine wP ?_ | refine wJ ?_ | refine wX ?_ | refine wY ?_ | refine wZ ?_))
  clear hF
  repeat refine evDone ?_
  try (show AW _ _ _ _ _)
  repeat refine AW.seq ?_
  refine AW.reg ?_
  have hF := hN
  repeat (first | refine wD1 ?_ | refine wD2 ?_ | refine wE1 ?_ | refine wE2 ?_ | (refine wE3 ?_; intro _) | (refine wE4 ?_; intro _) | refine wN ?_ | ((with_reducible show evIs _ (_ :: _) _ _); first | refine wQ ?_ | refine wF ?_ | refine wG ?_ | refine wT ?_ | refine wM ?_ | refine wS ?_ | refine wP ?_ | refine wJ ?_ | refine wX ?_ | refine wY ?_ | refine wZ ?_))
  clear hF
  repeat refine evDone ?_
  try (show AW _ _ _ _ _)
  have hF := hN
  refine wC (hA := d21) ?_
  clear hF
  have hF := And.intro (hN) (hwp)
  repeat (first | refine wD1 ?_ | refine wD2 ?_ | refine wE1 ?_ | refine wE2 ?_ | (refine wE3 ?_; intro _) | (refine wE4 ?_; intro _) | refine wN ?_ | ((with_reducible show evIs _ (_ :: _) _ _); first | refine wQ ?_ | refine wF ?_ | refine wG ?_ | refine wT ?_ | refine wM ?_ | refine wS ?_ | refine wP ?_ | refine wJ ?_ | refine wX ?_ | refine wY ?_ | refine wZ ?_))
  clear hF
  repeat refine evDone ?_
  try (show AW _ _ _ _ _)
  have hF := hN
  refine wC (hA := h16) ?_
  clear hF
  have hF := And.intro (hN) (And.intro (hwp) (hpd))
  repeat (first | refine wD1 ?_ | refine wD2 ?_ | refine wE1 ?_ | refine wE2 ?_ | (refine wE3 ?_; intro _) | (refine wE4 ?_; intro _) | refine wN ?_ | ((with_reducible show evIs _ (_ :: _) _ _); first | refine wQ ?_ | refine wF ?_ | refine wG ?_ | refine wT ?_ | refine wM ?_ | refine wS ?_ | refine wP ?_ | refine wJ ?_ | refine wX ?_ | refine wY ?_ | refine wZ ?_))
  clear hF
  repeat refine evDone ?_
  try (show AW _ _ _ _ _)
  repeat refine AW.seq ?_
  refine AW.condF (by simp [hpd, hpe]) (by simp [hpd, hpe]) ?_
  refine AW.skip ?_
  show AW _ _ _ _ _
  repeat refine AW.seq ?_
  refine AW.reg ?_
  have hF := hN
  repeat (first | refine wD1 ?_ | refine wD2 ?_ | refine wE1 ?_ | refine wE2 ?_ | (refine wE3 ?_; intro _) | (refine wE4 ?_; intro _) | refine wN ?_ | ((with_reducible show evIs _ (_ :: _) _ _); first | refine wQ ?_ | refine wF ?_ | refine wG ?_ | refine wT ?_ | refine wM ?_ | refine wS ?_ | refine wP ?_ | refine wJ ?_ | refine wX ?_ | refine wY ?_ | refine wZ ?_))
  clear hF
  repeat refine evDone ?_
  try (show AW _ _ _ _ _)
  have hF := hN
  refine wC (hA := d23) ?_
  clear hF
  have hF := hN
  repeat (first | refine wD1 ?_ | refine wD2 ?_ | refine wE1 ?_ | refine wE2 ?_ | (refine wE3 ?_; intro _) | (refine wE4 ?_; intro _) | refine wN ?_ | ((with_reducible show evIs _ (_ :: _) _ _); first | refine wQ ?_ | refine wF ?_ | refine wG ?_ | refine wT ?_ | refine wM ?_ | refine wS ?_ | refine wP ?_ | refine wJ ?_ | refine wX ?_ | refine wY ?_ | refine wZ ?_))
  clear hF
  repeat refine evDone ?_
  try (show AW _ _ _ _ _)
  repeat refine AW.seq ?_
  refine AW.reg ?_
  by_cases hx : p ≤ 0
  · by_cases hy : q ≤ 0
    · have hr1 : ¬ 0 < r := by have := g1 hx hy; omega
      have hF := And.intro (hN) (And.intro (hx) (hy))
      repeat (first | refine wD1 ?_ | refine wD2 ?_ | refine wE1 ?_ | refine wE2 ?_ | (refine wE3 ?_; intro _) | (refine wE4 ?_; intro _) | refine wN ?_ | ((with_reducible show evIs _ (_ :: _) _ _); first | refine wQ ?_ | refine wF ?_ | refine wG ?_ | refine wT ?_ | refine wM ?_ | refine wS ?_ | refine wP ?_ | refine wJ ?_ | refine wX ?_ | refine wY ?_ | refine wZ ?_))
      clear hF
      repeat refine evDone ?_
      try (show AW _ _ _ _ _)
      have hF := And.intro (hN) (And.intro (hx) (hy))
      refine wC (hA := d13) ?_
      clear hF
      by_cases hx' : 0 ≤ p
      · by_cases hy' : 0 ≤ q
        · have hr2 : ¬ r < 0 := by have := g2 hx' hy'; omega
          have hF := And.intro (hr1) (And.intro (hx) (And.intro (hy) (And.intro (hN) (And.intro (hx') (hy')))))
          repeat (first | refine wD1 ?_ | refine wD2 ?_ | refine wE1 ?_ | refine wE2 ?_ | (refine wE3 ?_; intro _) | (refine wE4 ?_; intro _) | refine wN ?_ | ((with_reducible show evIs _ (_ :: _) _ _); first | refine wQ ?_ | refine wF ?_ | refine wG ?_ | refine wT ?_ | refine wM ?_ | refine wS ?_ | refine wP ?_ | refine wJ ?_ | refine wX ?_ | refine wY ?_ | refine wZ ?_))
          clear hF
          repeat refine evDone ?_
          try (show AW _ _ _ _ _)
          have hF := And.intro (hN) (And.intro (hx') (hy'))
          refine wC (hA := d13) ?_
          clear hF
          have hF := And.intro (hr2) (And.intro (hx') (And.intro (hy') (And.intro (hr1) (And.intro (hx) (And.intro (hy) (hN))))))
          repeat (first | refine wD1 ?_ | refine wD2 ?_ | refine wE1 ?_ | refine wE2 ?_ | (refine wE3 ?_; intro _) | (refine wE4 ?_; intro _) | refine wN ?_ | ((with_reducible show evIs _ (_ :: _) _ _); first | refine wQ ?_ | refine wF ?_ | refine wG ?_ | refine wT ?_ | refine wM ?_ | refine wS ?_ | refine wP ?_ | refine wJ ?_ | refine wX ?_ | refine wY ?_ | refine wZ ?_))
          clear hF
          repeat refine evDone ?_
          try (show AW _ _ _ _ _)
          repeat refine AW.seq ?_
          refine AW.condF (by simp [hr2, hx', hy', hr1, hx, hy, hN]) (by simp [hr2, hx', hy', hr1, hx, hy, hN]) ?_
          refine AW.skip ?_
          show AW _ _ _ _ _
          repeat refine AW.seq ?_
          refine AW.reg ?_
          have hF := hN
          repeat (first | refine wD1 ?_ | refine wD2 ?_ | refine wE1 ?_ | refine wE2 ?_ | (refine wE3 ?_; intro _) | (refine wE4 ?_; intro _) | refine wN ?_ | ((with_reducible show evIs _ (_ :: _) _ _); first | refine wQ ?_ | refine wF ?_ | refine wG ?_ | refine wT ?_ | refine wM ?_ | refine wS ?_ | refine wP ?_ | refine wJ ?_ | refine wX ?_ | refine wY ?_ | refine wZ ?_))
          clear hF
          repeat refine evDone ?_
          try (show AW _ _ _ _ _)
          have hF := True.intro
          refine wC (hA := hw) ?_
          clear hF
          have hF := hN
          repeat (first | refine wD1 ?_ | refine wD2 ?_ | refine wE1 ?_ | refine wE2 ?_ | (refine wE3 ?_; intro _) | (refine wE4 ?_; intro _) | refine wN ?_ | ((with_reducible show evIs _ (_ :: _) _ _); first | refine wQ ?_ | refine wF ?_ | refine wG ?_ | refine wT ?_ | refine wM ?_ | refine wS ?_ | refine wP ?_ | refine wJ ?_ | refine wX ?_ | refine wY ?_ | refine wZ ?_))
          clear hF
          repeat refine evDone ?_
          try (show AW _ _ _ _ _)
          refine AW.ret (retI rfl ?_)
          simp [a4_res, resOk, resP, resV, ARes.op, R2s, R2, R1s, R1, closeOk, closeV]
        · have hF := And.intro (hx') (And.intro (hy') (And.intro (hr1) (And.intro (hx) (And.intro (hy) (hN)))))
          repeat (first | refine wD1 ?_ | refine wD2 ?_ | refine wE1 ?_ | refine wE2 ?_ | (refine wE3 ?_; intro _) | (refine wE4 ?_; intro _) | refine wN ?_ | ((with_reducible show evIs _ (_ :: _) _ _); first | refine wQ ?_ | refine wF ?_ | refine wG ?_ | refine wT ?_ | refine wM ?_ | refine wS ?_ | refine wP ?_ | refine wJ ?_ | refine wX ?_ | refine wY ?_ | refine wZ ?_))
          clear hF
          repeat refine evDone ?_
          try (show AW _ _ _ _ _)
          repeat refine AW.seq ?_
          refine AW.condF (by simp [hx', hy', hr1, hx, hy, hN]) (by simp [hx', hy', hr1, hx, hy, hN]) ?_
          refine AW.skip ?_
          show AW _ _ _ _ _
          repeat refine AW.seq ?_
          refine AW.reg ?_
          have hF := hN
          repeat (first | refine wD1 ?_ | refine wD2 ?_ | refine wE1 ?_ | refine wE2 ?_ | (refine wE3 ?_; intro _) | (refine wE4 ?_; intro _) | refine wN ?_ | ((with_reducible show evIs _ (_ :: _) _ _); first | refine wQ ?_ | refine wF ?_ | refine wG ?_ | refine wT ?_ | refine wM ?_ | refine wS ?_ | refine wP ?_ | refine wJ ?_ | refine wX ?_ | refine wY ?_ | refine wZ ?_))
          clear hF
          repeat refine evDone ?_
          try (show AW _ _ _ _ _)
          have hF := True.intro
          refine wC (hA := hw) ?_
          clear hF
          have hF := hN
          repeat (first | refine wD1 ?_ | refine wD2 ?_ | refine wE1 ?_ | refine wE2 ?_ | (refine wE3 ?_; intro _) | (refine wE4 ?_; intro _) | refine wN ?_ | ((with_reducible show evIs _ (_ :: _) _ _); first | refine wQ ?_ | refine wF ?_ | refine wG ?_ | refine wT ?_ | refine wM ?_ | refine wS ?_ | refine wP ?_ | refine wJ ?_ | refine wX ?_ | refine wY ?_ | refine wZ ?_))
          clear hF
          repeat refine evDone ?_
          try (show AW _ _ _ _ _)
          refine AW.ret (retI rfl ?_)
          simp [a4_res, resOk, resP, resV, ARes.op, R2s, R2, R1s, R1, closeOk, closeV]
      · have hF := And.intro (hx') (And.intro (hr1) (And.intro (hx) (And.intro (hy) (hN))))
        repeat (first | refine wD1 ?_ | refine wD2 ?_ | refine wE1 ?_ | refine wE2 ?_ | (refine wE3 ?_; intro _) | (refine wE4 ?_; intro _) | refine wN ?_ | ((with_reducible show evIs _ (_ :: _) _ _); first | refine wQ ?_ | refine wF ?_ | refine wG ?_ | refine wT ?_ | refine wM ?_ | refine wS ?_ | refine wP ?_ | refine wJ ?_ | refine wX ?_ | refine wY ?_ | refine wZ ?_))
        clear hF
        repeat refine evDone ?_
        try (show AW _ _ _ _ _)
        repeat refine AW.seq ?_
        refine AW.condF (by simp [hx', hr1, hx, hy, hN]) (by simp [hx', hr1, hx, hy, hN]) ?_
        refine AW.skip ?_
        show AW _ _ _ _ _
        repeat refine AW.seq ?_
        refine AW.reg ?_
        have hF := hN
        repeat (first | refine wD1 ?_ | refine wD2 ?_ | refine wE1 ?_ | refine wE2 ?_ | (refine wE3 ?_; intro _) | (refine wE4 ?_; intro _) | refine wN ?_ | ((with_reducible show evIs _ (_ :: _) _ _); first | refine wQ ?_ | refine wF ?_ | refine wG ?_ | refine wT ?_ | refine wM ?_ | refine wS ?_ | refine wP ?_ | refine wJ ?_ | refine wX ?_ | refine wY ?_ | refine wZ ?_))
        clear hF
        repeat refine evDone ?_
        try (show AW _ _ _ _ _)
        have hF := True.intro
        refine wC (hA := hw) ?_
        clear hF
        have hF := hN
        repeat (first | refine wD1 ?_ | refine wD2 ?_ | refine wE1 ?_ | refine wE2 ?_ | (refine wE3 ?_; intro _) | (refine wE4 ?_; intro _) | refine wN ?_ | ((with_reducible show evIs _ (_ :: _) _ _); first | refine wQ ?_ | refine wF ?_ | refine wG ?_ | refine wT ?_ | refine wM ?_ | refine wS ?_ | refine wP ?_ | refine wJ ?_ | refine wX ?_ | refine wY ?_ | refine wZ ?_))
        clear hF
        repeat refine evDone ?_
        try (show AW _ _ _ _ _)
        refine AW.ret (retI rfl ?_)
        simp [a4_res, resOk, resP, resV, ARes.op, R2s, R2, R1s, R1, closeOk, closeV]
    · by_cases hx' : 0 ≤ p
      · by_cases hy' : 0 ≤ q
        · have hr2 : ¬ r < 0 := by have := g2 hx' hy'; omega
          have hF := And.intro (hx) (And.intro (hy) (And.intro (hN) (And.intro (hx') (hy'))))
          repeat (first | refine wD1 ?_ | refine wD2 ?_ | refine wE1 ?_ | refine wE2 ?_ | (refine wE3 ?_; intro _) | (refine wE4 ?_; intro _) | refine wN ?_ | ((with_reducible show evIs _ (_ :: _) _ _); first | refine wQ ?_ | refine wF ?_ | refine wG ?_ | refine wT ?_ | refine wM ?_ | refine wS ?_ | refine wP ?_ | refine wJ ?_ | refine wX ?_ | refine wY ?_ | refine wZ ?_))
          clear hF
          repeat refine evDone ?_
          try (show AW _ _ _ _ _)
          have hF := And.intro (hN) (And.intro (hx') (hy'))
          refine wC (hA := d13) ?_
          clear hF
          have hF := And.intro (hr2) (And.intro (hx') (And.intro (hy') (And.intro (hx) (And.intro (hy) (hN)))))
          repeat (first | refine wD1 ?_ | refine wD2 ?_ | refine wE1 ?_ | refine wE2 ?_ | (refine wE3 ?_; intro _) | (refine wE4 ?_; intro _) | refine wN ?_ | ((with_reducible show evIs _ (_ :: _) _ _); first | refine wQ ?_ | refine wF ?_ | refine wG ?_ | refine wT ?_ | refine wM ?_ | refine wS ?_ | refine wP ?_ | refine wJ ?_ | refine wX ?_ | refine wY ?_ | refine wZ ?_))
          clear hF
          repeat refine evDone ?_
          try (show AW _ _ _ _ _)
          repeat refine AW.seq ?_
          refine AW.condF (by simp [hr2, hx', hy', hx, hy, hN]) (by simp [hr2, hx', hy', hx, hy, hN]) ?_
          refine AW.skip ?_
          show AW _ _ _ _ _
          repeat refine AW.seq ?_
          refine AW.reg ?_
          have hF := hN
          repeat (first | refine wD1 ?_ | refine wD2 ?_ | refine wE1 ?_ | refine wE2 ?_ | (refine wE3 ?_; intro _) | (refine wE4 ?_; intro _) | refine wN ?_ | ((with_reducible show evIs _ (_ :: _) _ _); first | refine wQ ?_ | refine wF ?_ | refine wG ?_ | refine wT ?_ | refine wM ?_ | refine wS ?_ | refine wP ?_ | refine wJ ?_ | refine wX ?_ | refine wY ?_ | refine wZ ?_))
          clear hF
          repeat refine evDone ?_
          try (show AW _ _ _ _ _)
          have hF := True.intro
          refine wC (hA := hw) ?_
          clear hF
          have hF := hN
          repeat (first | refine wD1 ?_ | refine wD2 ?_ | refine wE1 ?_ | refine wE2 ?_ | (refine wE3 ?_; intro _) | (refine wE4 ?_; intro _) | refine wN ?_ | ((with_reducible show evIs _ (_ :: _) _ _); first | refine wQ ?_ | refine wF ?_ | refine wG ?_ | refine wT ?_ | refine wM ?_ | refine wS ?_ | refine wP ?_ | refine wJ ?_ | refine wX ?_ | refine wY ?_ | refine wZ ?_))
          clear hF
          repeat refine evDone ?_
          try (show AW _ _ _ _ _)
          refine AW.ret (retI rfl ?_)
          simp [a4_res, resOk, resP, resV, ARes.op, R2s, R2, R1s, R1, closeOk, closeV]
        · have hF := And.intro (hx') (And.intro (hy') (And.intro (hx) (And.intro (hy) (hN))))
          repeat (first | refine wD1 ?_ | refine wD2 ?_ | refine wE1 ?_ | refine wE2 ?_ | (refine wE3 ?_; intro _) | (refine wE4 ?_; intro _) | refine wN ?_ | ((with_reducible show evIs _ (_ :: _) _ _); first | refine wQ ?_ | refine wF ?_ | refine wG ?_ | refine wT ?_ | refine wM ?_ | refine wS ?_ | refine wP ?_ | refine wJ ?_ | refine wX ?_ | refine wY ?_ | refine wZ ?_))
          clear hF
          repeat refine evDone ?_
          try (show AW _ _ _ _ _)
          repeat refine AW.seq ?_
          refine AW.condF (by simp [hx', hy', hx, hy, hN]) (by simp [hx', hy', hx, hy, hN]) ?_
          refine AW.skip ?_
          show AW _ _ _ _ _
          repeat refine AW.seq ?_
          refine AW.reg ?_
          have hF := hN
          repeat (first | refine wD1 ?_ | refine wD2 ?_ | refine wE1 ?_ | refine wE2 ?_ | (refine wE3 ?_; intro _) | (refine wE4 ?_; intro _) | refine wN ?_ | ((with_reducible show evIs _ (_ :: _) _ _); first | refine wQ ?_ | refine wF ?_ | refine wG ?_ | refine wT ?_ | refine wM ?_ | refine wS ?_ | refine wP ?_ | refine wJ ?_ | refine wX ?_ | refine wY ?_ | refine wZ ?_))
          clear hF
          repeat refine evDone ?_
          try (show AW _ _ _ _ _)
          have hF := True.intro
          refine wC (hA := hw) ?_
          clear hF
          have hF := hN
          repeat (first | refine wD1 ?_ | refine wD2 ?_ | refine wE1 ?_ | refine wE2 ?_ | (refine wE3 ?_; intro _) | (refine wE4 ?_; intro _) | refine wN ?_ | ((with_reducible show evIs _ (_ :: _) _ _); first | refine wQ ?_ | refine wF ?_ | refine wG ?_ | refine wT ?_ | refine wM ?_ | refine wS ?_ | refine wP ?_ | refine wJ ?_ | refine wX ?_ | refine wY ?_ | refine wZ ?_))
          clear hF
          repeat refine evDone ?_
          try (show AW _ _ _ _ _)
          refine AW.ret (retI rfl ?_)
          simp [a4_res, resOk, resP, resV, ARes.op, R2s, R2, R1s, R1, closeOk, closeV]
      · have hF := And.intro (hx') (And.intro (hx) (And.intro (hy) (hN)))
        repeat (first | refine wD1 ?_ | refine wD2 ?_ | refine wE1 ?_ | refine wE2 ?_ | (refine wE3 ?_; intro _) | (refine wE4 ?_; intro _) | refine wN ?_ | ((with_reducible show evIs _ (_ :: _) _ _); first | refine wQ ?_ | refine wF ?_ | refine wG ?_ | refine wT ?_ | refine wM ?_ | refine wS ?_ | refine wP ?_ | refine wJ ?_ | refine wX ?_ | refine wY ?_ | refine wZ ?_))
        clear hF
        repeat refine evDone ?_
        try (show AW _ _ _ _ _)
        repeat refine AW.seq ?_
        refine AW.condF (by simp [hx', hx, hy, hN]) (by simp [hx', hx, hy, hN]) ?_
        refine AW.skip ?_
        show AW _ _ _ _ _
        repeat refine AW.seq ?_
        refine AW.reg ?_
        have hF := hN
        repeat (first | refine wD1 ?_ | refine wD2 ?_ | refine wE1 ?_ | refine wE2 ?_ | (refine wE3 ?_; intro _) | (refine wE4 ?_; intro _) | refine wN ?_ | ((with_reducible show evIs _ (_ :: _) _ _); first | refine wQ ?_ | refine wF ?_ | refine wG ?_ | refine wT ?_ | refine wM ?_ | refine wS ?_ | refine wP ?_ | refine wJ ?_ | refine wX ?_ | refine wY ?_ | refine wZ ?_))
        clear hF
        repeat refine evDone ?_
        try (show AW _ _ _ _ _)
        have hF := True.intro
        refine wC (hA := hw) ?_
        clear hF
        have hF := hN
        repeat (first | refine wD1 ?_ | refine wD2 ?_ | refine wE1 ?_ | refine wE2 ?_ | (refine wE3 ?_; intro _) | (refine wE4 ?_; intro _) | refine wN ?_ | ((with_reducible show evIs _ (_ :: _) _ _); first | refine wQ ?_ | refine wF ?_ | refine wG ?_ | refine wT ?_ | refine wM ?_ | refine wS ?_ | refine wP ?_ | refine wJ ?_ | refine wX ?_ | refine wY ?_ | refine wZ ?_))
        clear hF
        repeat refine evDone ?_
        try (show AW _ _ _ _ _)
        refine AW.ret (retI rfl ?_)
        simp [a4_res, resOk, resP, resV, ARes.op, R2s, R2, R1s, R1, closeOk, closeV]
  · by_cases hx' : 0 ≤ p
    · by_cases hy' : 0 ≤ q
      · have hr2 : ¬ r < 0 := by have := g2 hx' hy'; omega
        have hF := And.intro (hx) (And.intro (hN) (And.intro (hx') (hy')))
        repeat (first | refine wD1 ?_ | refine wD2 ?_ | refine wE1 ?_ | refine wE2 ?_ | (refine wE3 ?_; intro _) | (refine wE4 ?_; intro _) | refine wN ?_ | ((with_reducible show evIs _ (_ :: _) _ _); first | refine wQ ?_ | refine wF ?_ | refine wG ?_ | refine wT ?_ | refine wM ?_ | refine wS ?_ | refine wP ?_ | refine wJ ?_ | refine wX ?_ | refine wY ?_ | refine wZ ?_))
        clear hF
        repeat refine evDone ?_
        try (show AW _ _ _ _ _)
        have hF := And.intro (hN) (And.intro (hx') (hy'))
        refine wC (hA := d13) ?_
        clear hF
        have hF := And.intro (hr2) (And.intro (hx') (And.intro (hy') (And.intro (hx) (hN))))
        repeat (first | refine wD1 ?_ | refine wD2 ?_ | refine wE1 ?_ | refine wE2 ?_ | (refine wE3 ?_; intro _) | (refine wE4 ?_; intro _) | refine wN ?_ | ((with_reducible show evIs _ (_ :: _) _ _); first | refine wQ ?_ | refine wF ?_ | refine wG ?_ | refine wT ?_ | refine wM ?_ | refine wS ?_ | refine wP ?_ | refine wJ ?_ | refine wX ?_ | refine wY ?_ | refine wZ ?_))
        clear hF
        repeat refine evDone ?_
        try (show AW _ _ _ _ _)
        repeat refine AW.seq ?_
        refine AW.condF (by simp [hr2, hx', hy', hx, hN]) (by simp [hr2, hx', hy', hx, hN]) ?_
        refine AW.skip ?_
        show AW _ _ _ _ _
        repeat refine AW.seq ?_
        refine AW.reg ?_
        have hF := hN
        repeat (first | refine wD1 ?_ | refine wD2 ?_ | refine wE1 ?_ | refine wE2 ?_ | (refine wE3 ?_; intro _) | (refine wE4 ?_; intro _) | refine wN ?_ | ((with_reducible show evIs _ (_ :: _) _ _); first | refine wQ ?_ | refine wF ?_ | refine wG ?_ | refine wT ?_ | refine wM ?_ | refine wS ?_ | refine wP ?_ | refine wJ ?_ | refine wX ?_ | refine wY ?_ | refine wZ ?_))
        clear hF
        repeat refine evDone ?_
        try (show AW _ _ _ _ _)
        have hF := True.intro
        refine wC (hA := hw) ?_
        clear hF
        have hF := hN
        repeat (first | refine wD1 ?_ | refine wD2 ?_ | refine wE1 ?_ | refine wE2 ?_ | (refine wE3 ?_; intro _) | (refine wE4 ?_; intro _) | refine wN ?_ | ((with_reducible show evIs _ (_ :: _) _ _); first | refine wQ ?_ | refine wF ?_ | refine wG ?_ | refine wT ?_ | refine wM ?_ | refine wS ?_ | refine wP ?_ | refine wJ ?_ | refine wX ?_ | refine wY ?_ | refine wZ ?_))
        clear hF
        repeat refine evDone ?_
        try (show AW _ _ _ _ _)
        refine AW.ret (retI rfl ?_)
        simp [a4_res, resOk, resP, resV, ARes.op, R2s, R2, R1s, R1, closeOk, closeV]
      · have hF := And.intro (hx') (And.intro (hy') (And.intro (hx) (hN)))
        repeat (first | refine wD1 ?_ | refine wD2 ?_ | refine wE1 ?_ | refine wE2 ?_ | (refine wE3 ?_; intro _) | (refine wE4 ?_; intro _) | refine wN ?_ | ((with_reducible show evIs _ (_ :: _) _ _); first | refine wQ ?_ | refine wF ?_ | refine wG ?_ | refine wT ?_ | refine wM ?_ | refine wS ?_ | refine wP ?_ | refine wJ ?_ | refine wX ?_ | refine wY ?_ | refine wZ ?_))
        clear hF
        repeat refine evDone ?_
        try (show AW _ _ _ _ _)
        repeat refine AW.seq ?_
        refine AW.condF (by simp [hx', hy', hx, hN]) (by simp [hx', hy', hx, hN]) ?_
        refine AW.skip ?_
        show AW _ _ _ _ _
        repeat refine AW.seq ?_
        refine AW.reg ?_
        have hF := hN
        repeat (first | refine wD1 ?_ | refine wD2 ?_ | refine wE1 ?_ | refine wE2 ?_ | (refine wE3 ?_; intro _) | (refine wE4 ?_; intro _) | refine wN ?_ | ((with_reducible show evIs _ (_ :: _) _ _); first | refine wQ ?_ | refine wF ?_ | refine wG ?_ | refine wT ?_ | refine wM ?_ | refine wS ?_ | refine wP ?_ | refine wJ ?_ | refine wX ?_ | refine wY ?_ | refine wZ ?_))
        clear hF
        repeat refine evDone ?_
        try (show AW _ _ _ _ _)
        have hF := True.intro
        refine wC (hA := hw) ?_
        clear hF
        have hF := hN
        repeat (first | refine wD1 ?_ | refine wD2 ?_ | refine wE1 ?_ | refine wE2 ?_ | (refine wE3 ?_; intro _) | (refine wE4 ?_; intro _) | refine wN ?_ | ((with_reducible show evIs _ (_ :: _) _ _); first | refine wQ ?_ | refine wF ?_ | refine wG ?_ | refine wT ?_ | refine wM ?_ | refine wS ?_ | refine wP ?_ | refine wJ ?_ | refine wX ?_ | refine wY ?_ | refine wZ ?_))
        clear hF
        repeat refine evDone ?_
        try (show AW _ _ _ _ _)
        refine AW.ret (retI rfl ?_)
        simp [a4_res, resOk, resP, resV, ARes.op, R2s, R2, R1s, R1, closeOk, closeV]
    · have hF := And.intro (hx') (And.intro (hx) (hN))
      repeat (first | refine wD1 ?_ | refine wD2 ?_ | refine wE1 ?_ | refine wE2 ?_ | (refine wE3 ?_; intro _) | (refine wE4 ?_; intro _) | refine wN ?_ | ((with_reducible show evIs _ (_ :: _) _ _); first | refine wQ ?_ | refine wF ?_ | refine wG ?_ | refine wT ?_ | refine wM ?_ | refine wS ?_ | refine wP ?_ | refine wJ ?_ | refine wX ?_ | refine wY ?_ | refine wZ ?_))
      clear hF
      repeat refine evDone ?_
      try (show AW _ _ _ _ _)
      repeat refine AW.seq ?_
      refine AW.condF (by simp [hx', hx, hN]) (by simp [hx', hx, hN]) ?_
      refine AW.skip ?_
      show AW _ _ _ _ _
      repeat refine AW.seq ?_
      refine AW.reg ?_
      have hF := hN
      repeat (first | refine wD1 ?_ | refine wD2 ?_ | refine wE1 ?_ | refine wE2 ?_ | (refine wE3 ?_; intro _) | (refine wE4 ?_; intro _) | refine wN ?_ | ((with_reducible show evIs _ (_ :: _) _ _); first | refine wQ ?_ | refine wF ?_ | refine wG ?_ | refine wT ?_ | refine wM ?_ | refine wS ?_ | refine wP ?_ | refine wJ ?_ | refine wX ?_ | refine wY ?_ | refine wZ ?_))
      clear hF
      repeat refine evDone ?_
      try (show AW _ _ _ _ _)
      have hF := True.intro
      refine wC (hA := hw) ?_
      clear hF
      have hF := hN
      repeat (first | refine wD1 ?_ | refine wD2 ?_ | refine wE1 ?_ | refine wE2 ?_ | (refine wE3 ?_; intro _) | (refine wE4 ?_; intro _) | refine wN ?_ | ((with_reducible show evIs _ (_ :: _) _ _); first | refine wQ ?_ | refine wF ?_ | refine wG ?_ | refine wT ?_ | refine wM ?_ | refine wS ?_ | refine wP ?_ | refine wJ ?_ | refine wX ?_ | refine wY ?_ | refine wZ ?_))
      clear hF
      repeat refine evDone ?_
      try (show AW _ _ _ _ _)
      refine AW.ret (retI rfl ?_)
      simp [a4_res, resOk, resP, resV, ARes.op, R2s, R2, R1s, R1, closeOk, closeV]
end Go.Proofs.Ytdnpnokplfemfaa
