/- What a call gives back becomes the caller's own, whatever slices it holds: a contract of values is one of roots. -/
import Derived.Test.YtdnpnokplfemfaaA4
import Derived.Test.YtdnpnokplfemfaaA3

set_option linter.unusedSimpArgs false
set_option linter.unusedVariables false
namespace Go.Amb
open Go Go.RowKit

theorem mkH_append (H1 H2 : List (Nat × Blk)) (q : Nat) : mkH (H1 ++ H2) q = match mkH H1 q with | some b => some b | none => mkH H2 q := by
  induction H1 with
  | nil => rfl
  | cons p l ih =>
    obtain ⟨r, b⟩ := p
    simp only [List.cons_append, mkH_cons]
    split
    · rfl
    · exact ih

/-- Slices owned alone become roots, numbered from N on; all else is frozen. -/
inductive Ad : Nat → List AV → List AV → List (Nat × Blk) → Nat → Prop
  | nil {N} : Ad N [] [] [] N
  | own {N sz xs vs vs' H n'} (h0 : 0 < sz) (t : Ad (N + 1) vs vs' H n') : Ad N (.sl (.own sz) xs :: vs) (.hdr N 0 xs.length :: vs') ((N, ⟨sz, false, xs⟩) :: H) n'
  | cl {N v vs vs' H n'} (t : Ad N vs vs' H n') : Ad N (v :: vs) (clC v :: vs') H n'
  | agg {N cs cs' vs vs' H1 H2 m n'} (h : Ad N cs cs' H1 m) (t : Ad m vs vs' H2 n') : Ad N (.agg cs :: vs) (.agg cs' :: vs') (H1 ++ H2) n'
  | tup {N cs cs' vs vs' H1 H2 m n'} (h : Ad N cs cs' H1 m) (t : Ad m vs vs' H2 n') : Ad N (.tup cs :: vs) (.tup cs' :: vs') (H1 ++ H2) n'

theorem Ad.ones {N n' : Nat} {vs vs' : List AV} {H : List (Nat × Blk)} (h : Ad N vs vs' H n') : (∀ v ∈ vs, v.one = true) → ∀ v ∈ vs', v.one = true := by
  induction h with
  | nil => intro _ v hv; simp at hv
  | own h0 t ih =>
    intro h1 v hv
    rcases List.mem_cons.1 hv with rfl | hv
    · rfl
    · exact ih (fun x hx => h1 x (by simp [hx])) v hv
  | @cl N y vs vs' H n' t ih =>
    intro h1 v hv
    rcases List.mem_cons.1 hv with rfl | hv
    · have := h1 y (by simp)
      rw [clC, mapA_one nilF_one nilF_one]; exact this
    · exact ih (fun x hx => h1 x (by simp [hx])) v hv
  | agg h t _ _ => intro h1; have := h1 _ List.mem_cons_self; simp [AV.one] at this
  | tup h t _ _ => intro h1; have := h1 _ List.mem_cons_self; simp [AV.one] at this

section
variable {w : World}
theorem ad_sound {N n' : Nat} {vs vs' : List AV} {H : List (Nat × Blk)} (h : Ad N vs vs' H n') : ∀ {O : Nat → Prop} {B0 : Nat} {us : List Value} {fr : List Nat}, Vals w O B0 noPl vs us fr → fr.Nodup →
    N ≤ n' ∧ (∀ q, (mkH H q).isSome = true → N ≤ q ∧ q < n') ∧ ∃ (plN : Pls) (fpN : Nat → List Nat),
      (∀ q, (mkH H q).isSome = true → (fpN q).Nodup ∧ ∀ b ∈ fpN q, b ∈ fr) ∧
      (∀ q q' b, (mkH H q).isSome = true → (mkH H q').isSome = true → q ≠ q' → b ∈ fpN q → b ∉ fpN q') ∧
      ∀ (O' : Nat → Prop) (B : Nat) (pl : Pls), (∀ b, b < w.heap.size → ¬ O b → ¬ O' b) → (∀ b ∈ fr, (∀ q, (mkH H q).isSome = true → b ∉ fpN q) → ¬ O' b) → (∀ q p, N ≤ q → q < n' → plN q = some p → pl q = some p) →
        (∀ q blk, mkH H q = some blk → RootRel w O' B pl q blk (fpN q)) ∧ Vals w O' B pl vs' us [] := by
  induction h with
  | nil =>
    intro O B0 us fr hv hnd
    cases hv
    exact ⟨Nat.le_refl _, fun q hq => by simp at hq, noPl, fun _ => [], fun q hq => by simp at hq, fun q q' b hq => by simp at hq, fun O' B pl _ _ _ => ⟨fun q blk hq => by simp at hq, .nil⟩⟩
  | @own N sz xs vs vs' H n' h0 t ih =>
    intro O B0 us fr hv hnd
    obtain ⟨u, us', f1, f2, rfl, rfl, h1, h2⟩ := hv.uncons
    have hnd' := List.nodup_append.1 hnd
    obtain ⟨hle, hk, plN, fpN, c1, c2, c3⟩ := ih h2 hnd'.2.1
    have hneN : ∀ q, (mkH H q).isSome = true → q ≠ N := fun q hq e => by have := (hk q hq).1; omega
    have hlive : ∀ q, (mkH ((N, (⟨sz, false, xs⟩ : Blk)) :: H) q).isSome = true → q = N ∨ (q ≠ N ∧ (mkH H q).isSome = true) := by
      intro q hq
      by_cases e : q = N
      · exact .inl e
      · simp only [mkH_cons, if_neg e] at hq; exact .inr ⟨e, hq⟩
    refine ⟨by omega, ?_, ?_⟩
    · intro q hq
      rcases hlive q hq with rfl | ⟨_, hq⟩
      · exact ⟨Nat.le_refl _, by omega⟩
      · have := hk q hq; exact ⟨by omega, this.2⟩
    obtain ⟨p, hroot, hhdr⟩ : ∃ p : Pl, (∀ (O' : Nat → Prop) (B : Nat) (pl : Pls), (∀ b, b < w.heap.size → ¬ O b → ¬ O' b) → pl N = some p → RootRel w O' B pl N ⟨sz, false, xs⟩ f1) ∧
        ∀ (O' : Nat → Prop) (B : Nat) (pl : Pls), pl N = some p → Vals w O' B pl [.hdr N 0 xs.length] [u] [] := by
      rcases inv_own h1 with ⟨rfl, A, rfl, rfl⟩ | ⟨b, j, cap, cs, fp1, hr, hl, hz, hu, ho, hn, hc, ha, rfl, rfl⟩
      · exact ⟨⟨none, 0, sz, 0⟩, fun O' B pl _ hp => .emp hp rfl h0, fun O' B pl hp => .hdre hp .nil⟩
      · refine ⟨⟨some b, j, sz, cap⟩, fun O' B pl hO hp => ?_, fun O' B pl hp => ?_⟩
        · exact .blk hp hr hl hz hu ho hn (by simpa using hc.shift (fun _ _ _ => rfl) (Nat.le_refl _) hO noPl (fun _ _ h => h)) ha
        · have := Vals.hdr (w := w) (O := O') (B := B) (pl := pl) (off := 0) (len := xs.length) (A := some ⟨b, j * sz, none⟩) hp (by omega) (.inl (by simp)) .nil
          simpa using this
    refine ⟨fun q => if q = N then some p else plN q, fun q => if q = N then f1 else fpN q, ?_, ?_, ?_⟩
    · intro q hq
      rcases hlive q hq with rfl | ⟨e, hq⟩
      · simp only [if_true]; exact ⟨hnd'.1, fun b hb => List.mem_append_left _ hb⟩
      · simp only [if_neg e]; exact ⟨(c1 q hq).1, fun b hb => List.mem_append_right _ ((c1 q hq).2 b hb)⟩
    · intro q q' b hq hq' hne hb hb'
      rcases hlive q hq with e | ⟨e, k1⟩ <;> rcases hlive q' hq' with e' | ⟨e', k2⟩
      · exact hne (e.trans e'.symm)
      · simp only [if_pos e] at hb
        simp only [if_neg e'] at hb'
        exact hnd'.2.2 b hb b ((c1 q' k2).2 b hb') rfl
      · simp only [if_pos e'] at hb'
        simp only [if_neg e] at hb
        exact hnd'.2.2 b hb' b ((c1 q k1).2 b hb) rfl
      · simp only [if_neg e] at hb
        simp only [if_neg e'] at hb'
        exact c2 q q' b k1 k2 hne hb hb'
    · intro O' B pl hO hfr hpl
      have hpN : pl N = some p := hpl N p (Nat.le_refl _) (by omega) (by simp)
      obtain ⟨d1, d2⟩ := c3 O' B pl hO (fun b hb hno => hfr b (List.mem_append_right _ hb) fun q hq => by
        rcases hlive q hq with rfl | ⟨e, hq⟩
        · simp only [if_true]; exact fun hb1 => hnd'.2.2 b hb1 b hb rfl
        · simp only [if_neg e]; exact hno q hq) (fun q p' h3 h4 h5 => hpl q p' (by omega) h4 (by show (if q = N then some p else plN q) = some p'; rw [if_neg (by omega)]; exact h5))
      refine ⟨fun q blk hq => ?_, ?_⟩
      · by_cases e : q = N
        · subst e
          simp only [mkH_cons, if_true] at hq ⊢
          injection hq with hq
          subst hq
          exact hroot O' B pl hO hpN
        · simp only [mkH_cons, if_neg e] at hq ⊢
          exact d1 q blk hq
      · simpa using (hhdr O' B pl hpN).cons d2
  | @cl N v vs vs' H n' t ih =>
    intro O B0 us fr hv hnd
    obtain ⟨u, us', f1, f2, rfl, rfl, h1, h2⟩ := hv.uncons
    have hnd' := List.nodup_append.1 hnd
    obtain ⟨hle, hk, plN, fpN, c1, c2, c3⟩ := ih h2 hnd'.2.1
    refine ⟨hle, hk, plN, fpN, fun q hq => ⟨(c1 q hq).1, fun b hb => List.mem_append_right _ ((c1 q hq).2 b hb)⟩, c2, fun O' B pl hO hfr hpl => ?_⟩
    obtain ⟨d1, d2⟩ := c3 O' B pl hO (fun b hb hno => hfr b (List.mem_append_right _ hb) hno) hpl
    refine ⟨d1, ?_⟩
    have hv1 := map_vals (fh := nilF) (fq := nilF) (oh := noF) (oq := noF) (pl0 := noPl) (O' := O') (B' := B) nilF_one nilF_one (fun _ _ _ _ h => h.elim) (fun _ _ _ _ h => h.elim) hO h1 (.inr rfl) (fun b hb => hfr b (List.mem_append_left _ hb) fun q hq hb' => hnd'.2.2 b hb b ((c1 q hq).2 b hb') rfl)
    have hv2 := hv1.shift (w' := w) (O' := O') (B' := B) (fun _ _ _ => rfl) (Nat.le_refl _) (fun _ _ h => h) pl (fun _ _ h => by cases h)
    have hv3 : Vals w O' B pl [clC v] [u] [] := by simpa [mapAs, clC] using hv2
    simpa using hv3.cons d2
  | @agg N cs cs' vs vs' H1 H2 m n' hA t ihA ih =>
    intro O B0 us fr hv hnd
    obtain ⟨u, us', f1, f2, rfl, rfl, h1, h2⟩ := hv.uncons
    have hnd' := List.nodup_append.1 hnd
    obtain ⟨us1, rfl, h1, hone⟩ := inv_agg h1
    obtain ⟨hleA, hkA, plA, fpA, a1, a2, a3⟩ := ihA h1 hnd'.1
    obtain ⟨hle, hk, plN, fpN, c1, c2, c3⟩ := ih h2 hnd'.2.1
    have hlive : ∀ q, (mkH (H1 ++ H2) q).isSome = true → ((mkH H1 q).isSome = true ∧ q < m) ∨ ((mkH H1 q).isSome = false ∧ (mkH H2 q).isSome = true ∧ ¬ q < m) := by
      intro q hq
      rw [mkH_append] at hq
      cases hm : mkH H1 q with
      | some b => exact .inl ⟨rfl, (hkA q (by rw [hm]; rfl)).2⟩
      | none => rw [hm] at hq; exact .inr ⟨rfl, hq, by have := (hk q hq).1; omega⟩
    have hl1 : ∀ q, (mkH H1 q).isSome = true → (mkH (H1 ++ H2) q).isSome = true := by
      intro q hq
      rw [mkH_append]
      cases hm : mkH H1 q with
      | some b => rfl
      | none => rw [hm] at hq; cases hq
    have hl2 : ∀ q, (mkH H2 q).isSome = true → (mkH (H1 ++ H2) q).isSome = true := by
      intro q hq
      rw [mkH_append]
      cases hm : mkH H1 q with
      | some b => rfl
      | none => exact hq
    refine ⟨by omega, ?_, fun q => if q < m then plA q else plN q, fun q => if q < m then fpA q else fpN q, ?_, ?_, ?_⟩
    · intro q hq
      rcases hlive q hq with ⟨h, _⟩ | ⟨_, h, _⟩
      · have := hkA q h; exact ⟨this.1, by omega⟩
      · have := hk q h; exact ⟨by omega, this.2⟩
    · intro q hq
      rcases hlive q hq with ⟨h, e⟩ | ⟨_, h, e⟩
      · simp only [if_pos e]; exact ⟨(a1 q h).1, fun b hb => List.mem_append_left _ ((a1 q h).2 b hb)⟩
      · simp only [if_neg e]; exact ⟨(c1 q h).1, fun b hb => List.mem_append_right _ ((c1 q h).2 b hb)⟩
    · intro q q' b hq hq' hne hb hb'
      rcases hlive q hq with ⟨h, e⟩ | ⟨_, h, e⟩ <;> rcases hlive q' hq' with ⟨h', e'⟩ | ⟨_, h', e'⟩
      · simp only [if_pos e] at hb; simp only [if_pos e'] at hb'
        exact a2 q q' b h h' hne hb hb'
      · simp only [if_pos e] at hb; simp only [if_neg e'] at hb'
        exact hnd'.2.2 b ((a1 q h).2 b hb) b ((c1 q' h').2 b hb') rfl
      · simp only [if_neg e] at hb; simp only [if_pos e'] at hb'
        exact hnd'.2.2 b ((a1 q' h').2 b hb') b ((c1 q h).2 b hb) rfl
      · simp only [if_neg e] at hb; simp only [if_neg e'] at hb'
        exact c2 q q' b h h' hne hb hb'
    · intro O' B pl hO hfr hpl
      obtain ⟨e1, e2⟩ := a3 O' B pl hO (fun b hb hno => hfr b (List.mem_append_left _ hb) fun q hq => by
        rcases hlive q hq with ⟨h, e⟩ | ⟨_, h, e⟩
        · simp only [if_pos e]; exact hno q h
        · simp only [if_neg e]; exact fun hb' => hnd'.2.2 b hb b ((c1 q h).2 b hb') rfl) (fun q p h3 h4 h5 => hpl q p h3 (by omega) (by show (if q < m then plA q else plN q) = some p; rw [if_pos h4]; exact h5))
      obtain ⟨d1, d2⟩ := c3 O' B pl hO (fun b hb hno => hfr b (List.mem_append_right _ hb) fun q hq => by
        rcases hlive q hq with ⟨h, e⟩ | ⟨_, h, e⟩
        · simp only [if_pos e]; exact fun hb' => hnd'.2.2 b ((a1 q h).2 b hb') b hb rfl
        · simp only [if_neg e]; exact hno q h) (fun q p h3 h4 h5 => hpl q p (by omega) h4 (by show (if q < m then plA q else plN q) = some p; rw [if_neg (by omega)]; exact h5))
      refine ⟨fun q blk hq => ?_, ?_⟩
      · rcases hlive q (by rw [hq]; rfl) with ⟨h, e⟩ | ⟨h0, h, e⟩
        · simp only [if_pos e]
          refine e1 q blk ?_
          rw [mkH_append] at hq
          cases hm : mkH H1 q with
          | some b => rw [hm] at hq; exact hq
          | none => rw [hm] at h; cases h
        · simp only [if_neg e]
          refine d1 q blk ?_
          rw [mkH_append] at hq
          cases hm : mkH H1 q with
          | some b => rw [hm] at h0; cases h0
          | none => rw [hm] at hq; exact hq
      · have := Vals.agg (hA.ones hone) e2 d2
        simpa using this
  | @tup N cs cs' vs vs' H1 H2 m n' hA t ihA ih =>
    intro O B0 us fr hv hnd
    obtain ⟨u, us', f1, f2, rfl, rfl, h1, h2⟩ := hv.uncons
    have hnd' := List.nodup_append.1 hnd
    obtain ⟨us1, rfl, h3⟩ := inv_tup h1
    obtain ⟨hleA, hkA, plA, fpA, a1, a2, a3⟩ := ihA h3 hnd'.1
    obtain ⟨hle, hk, plN, fpN, c1, c2, c3⟩ := ih h2 hnd'.2.1
    have hlive : ∀ q, (mkH (H1 ++ H2) q).isSome = true → ((mkH H1 q).isSome = true ∧ q < m) ∨ ((mkH H1 q).isSome = false ∧ (mkH H2 q).isSome = true ∧ ¬ q < m) := by
      intro q hq
      rw [mkH_append] at hq
      cases hm : mkH H1 q with
      | some b => exact .inl ⟨rfl, (hkA q (by rw [hm]; rfl)).2⟩
      | none => rw [hm] at hq; exact .inr ⟨rfl, hq, by have := (hk q hq).1; omega⟩
    refine ⟨by omega, ?_, fun q => if q < m then plA q else plN q, fun q => if q < m then fpA q else fpN q, ?_, ?_, ?_⟩
    · intro q hq
      rcases hlive q hq with ⟨h, _⟩ | ⟨_, h, _⟩
      · have := hkA q h; exact ⟨this.1, by omega⟩
      · have := hk q h; exact ⟨by omega, this.2⟩
    · intro q hq
      rcases hlive q hq with ⟨h, e⟩ | ⟨_, h, e⟩
      · simp only [if_pos e]; exact ⟨(a1 q h).1, fun b hb => List.mem_append_left _ ((a1 q h).2 b hb)⟩
      · simp only [if_neg e]; exact ⟨(c1 q h).1, fun b hb => List.mem_append_right _ ((c1 q h).2 b hb)⟩
    · intro q q' b hq hq' hne hb hb'
      rcases hlive q hq with ⟨h, e⟩ | ⟨_, h, e⟩ <;> rcases hlive q' hq' with ⟨h', e'⟩ | ⟨_, h', e'⟩
      · simp only [if_pos e] at hb; simp only [if_pos e'] at hb'
        exact a2 q q' b h h' hne hb hb'
      · simp only [if_pos e] at hb; simp only [if_neg e'] at hb'
        exact hnd'.2.2 b ((a1 q h).2 b hb) b ((c1 q' h').2 b hb') rfl
      · simp only [if_neg e] at hb; simp only [if_pos e'] at hb'
        exact hnd'.2.2 b ((a1 q' h').2 b hb') b ((c1 q h).2 b hb) rfl
      · simp only [if_neg e] at hb; simp only [if_neg e'] at hb'
        exact c2 q q' b h h' hne hb hb'
    · intro O' B pl hO hfr hpl
      obtain ⟨e1, e2⟩ := a3 O' B pl hO (fun b hb hno => hfr b (List.mem_append_left _ hb) fun q hq => by
        rcases hlive q hq with ⟨h, e⟩ | ⟨_, h, e⟩
        · simp only [if_pos e]; exact hno q h
        · simp only [if_neg e]; exact fun hb' => hnd'.2.2 b hb b ((c1 q h).2 b hb') rfl) (fun q p h3 h4 h5 => hpl q p h3 (by omega) (by show (if q < m then plA q else plN q) = some p; rw [if_pos h4]; exact h5))
      obtain ⟨d1, d2⟩ := c3 O' B pl hO (fun b hb hno => hfr b (List.mem_append_right _ hb) fun q hq => by
        rcases hlive q hq with ⟨h, e⟩ | ⟨_, h, e⟩
        · simp only [if_pos e]; exact fun hb' => hnd'.2.2 b ((a1 q h).2 b hb') b hb rfl
        · simp only [if_neg e]; exact hno q h) (fun q p h3 h4 h5 => hpl q p (by omega) h4 (by show (if q < m then plA q else plN q) = some p; rw [if_neg (by omega)]; exact h5))
      refine ⟨fun q blk hq => ?_, ?_⟩
      · rcases hlive q (by rw [hq]; rfl) with ⟨h, e⟩ | ⟨h0, h, e⟩
        · simp only [if_pos e]
          refine e1 q blk ?_
          rw [mkH_append] at hq
          cases hm : mkH H1 q with
          | some b => rw [hm] at hq; exact hq
          | none => rw [hm] at h; cases h
        · simp only [if_neg e]
          refine d1 q blk ?_
          rw [mkH_append] at hq
          cases hm : mkH H1 q with
          | some b => rw [hm] at h0; cases h0
          | none => rw [hm] at hq; exact hq
      · have := Vals.tup e2 d2
        simpa using this
end

/-- A contract of values, as one of roots: the roots handed over are read alone, and come back. -/
theorem bcall_of {P : Program} {f : Nat} {H0 : List (Nat × Blk)} {N : Nat} {args args' : List AV} {r v : AV} {H1 : List (Nat × Blk)} {n' : Nat} (hA : ACall P f args' (· = r)) (had : Ad N [r] [v] H1 n')
    (hargs : args.map (fzA (mkH H0)) = args') (hm : okAs noF noF args ∨ (okAs (okB (mkH H0)) (okQ (mkH H0)) args ∧ sc r = true)) :
    BCall P f H0 N args (fun H1' n'' v' => H1' = H1 ++ H0 ∧ n'' = n' ∧ v' = v) := by
  subst hargs
  refine ⟨hA.1, fun E a pl fp us hP hnb hpl hR hv => ?_⟩
  have hXlt : ∀ b, Own E (mkS [] H0 N) fp b → b < E.w0.heap.size := fun b hb => own_lt hR hb
  have key : ∀ (w' : World) (u : Value) (fr : List Nat), Vals w' (fun b => Own E (mkS [] H0 N) fp b ∨ b ∈ fr) 0 noPl [r] [u] fr → fr.Nodup → (∀ b ∈ fr, E.w0.heap.size ≤ b ∧ b < w'.heap.size) → Keeps (fun _ => False) E.w0 w' →
      Ends E H0 N (fun H1' n'' v' => H1' = H1 ++ H0 ∧ n'' = n' ∧ v' = v) (.returned u) w' := by
    intro w' u fr hvr hnd hnew hkeep
    have hB := below_of_keeps hkeep
    obtain ⟨hle, hk, plN, fpN, c1, c2, c3⟩ := ad_sound had hvr hnd
    let fq : Nat → List Nat := fun q => if (mkH H1 q).isSome then fpN q else fp q
    let pq : Pls := fun q => if N ≤ q then (if q < n' then plN q else none) else pl q
    have hlt0 : ∀ q, (mkH H0 q).isSome = true → q < N := by
      intro q hq
      have := hR.used q hq
      simpa [mkS] using this
    have hlive : ∀ q, (mkH (H1 ++ H0) q).isSome = true → ((mkH H1 q).isSome = true ∧ fq q = fpN q ∧ mkH (H1 ++ H0) q = mkH H1 q) ∨ ((mkH H1 q).isSome = false ∧ (mkH H0 q).isSome = true ∧ fq q = fp q ∧ mkH (H1 ++ H0) q = mkH H0 q) := by
      intro q hq
      have e : mkH (H1 ++ H0) q = match mkH H1 q with | some b => some b | none => mkH H0 q := mkH_append H1 H0 q
      cases hm : mkH H1 q with
      | some b => rw [hm] at e; exact .inl ⟨rfl, by simp only [fq, hm]; rfl, e⟩
      | none => rw [hm] at e; rw [e] at hq; exact .inr ⟨rfl, hq, by simp only [fq, hm]; rfl, e⟩
    have hO : ∀ b, Own E (mkS [] (H1 ++ H0) n') fq b → Own E (mkS [] H0 N) fp b ∨ ∃ q, (mkH H1 q).isSome = true ∧ b ∈ fpN q := by
      rintro b (hx | ⟨q, hq, hb⟩)
      · exact .inl (.inl hx)
      · rcases hlive q hq with ⟨h1, h2, _⟩ | ⟨_, h1, h2, _⟩
        · rw [h2] at hb; exact .inr ⟨q, h1, hb⟩
        · rw [h2] at hb; exact .inl (.inr ⟨q, h1, hb⟩)
    have hO1 : ∀ b, b < w'.heap.size → ¬ (Own E (mkS [] H0 N) fp b ∨ b ∈ fr) → ¬ Own E (mkS [] (H1 ++ H0) n') fq b := by
      intro b _ hn ho
      rcases hO b ho with h | ⟨q, h1, h2⟩
      · exact hn (.inl h)
      · exact hn (.inr ((c1 q h1).2 b h2))
    have hO2 : ∀ b ∈ fr, (∀ q, (mkH H1 q).isSome = true → b ∉ fpN q) → ¬ Own E (mkS [] (H1 ++ H0) n') fq b := by
      intro b hb hn ho
      rcases hO b ho with h | ⟨q, h1, h2⟩
      · have := hXlt b h; have := (hnew b hb).1; omega
      · exact hn q h1 h2
    have hO3 : ∀ b, b < E.w0.heap.size → ¬ Own E (mkS [] H0 N) fp b → ¬ Own E (mkS [] (H1 ++ H0) n') fq b := by
      intro b hb hn ho
      rcases hO b ho with h | ⟨q, h1, h2⟩
      · exact hn h
      · have := (hnew b ((c1 q h1).2 b h2)).1; omega
    have hpold : ∀ q p, pl q = some p → pq q = some p := by
      intro q p hq
      have : ¬ N ≤ q := fun hN => by
        have := hR.unused q (by simp [mkS]; omega)
        rw [hq] at this; cases this
      simp only [pq, if_neg this]; exact hq
    obtain ⟨d1, d2⟩ := c3 (Own E (mkS [] (H1 ++ H0) n') fq) E.w0.heap.size pq hO1 hO2 (fun q p h1 h2 h3 => by simp only [pq, if_pos h1, if_pos h2]; exact h3)
    refine ⟨H1 ++ H0, n', v, a, pq, fq, ⟨rfl, rfl, rfl⟩, hle, ?_, ?_, d2⟩
    · intro q hq
      rcases hlive q hq with ⟨h1, _⟩ | ⟨_, h1, _⟩
      · exact .inr (hk q h1).1
      · exact .inl h1
    · exact
        { size := hR.size, defers := hR.defers
          plx := fun q hq => by
            have : ¬ N ≤ q := by have := hR.usnb q hq; simp [mkS] at this; omega
            simp only [pq, if_neg this]; exact hR.plx q hq
          unused := fun q hq => by
            have hq' : ¬ q < n' := by simpa [mkS] using hq
            simp only [pq, if_pos (show N ≤ q by omega), if_neg hq']
          used := fun q hq => by
            rcases hlive q hq with ⟨h1, _⟩ | ⟨_, h1, _⟩
            · have := (hk q h1).2; simpa [mkS] using this
            · have := hlt0 q h1; simp [mkS]; omega
          usnb := fun q hq => by have := hR.usnb q hq; simp [mkS] at this ⊢; omega
          roots := fun q blk hq => by
            have hq' : mkH (H1 ++ H0) q = some blk := hq
            rcases hlive q (by rw [hq']; rfl) with ⟨h1, h2, h3⟩ | ⟨_, h1, h2, h3⟩
            · rw [h2]; exact d1 q blk (h3 ▸ hq')
            · rw [h2]
              refine (hR.roots q blk (by show mkH H0 q = some blk; rw [← h3]; exact hq')).to ?_ hB.size hO3 hpold
              exact fun b _ hl => hB.block b hl
          nodup := fun q hq => by
            rcases hlive q hq with ⟨h1, h2, _⟩ | ⟨_, h1, h2, _⟩
            · rw [h2]; exact (c1 q h1).1
            · rw [h2]; exact hR.nodup q h1
          own := fun q hq b hb => by
            rcases hlive q hq with ⟨h1, h2, _⟩ | ⟨_, h1, h2, _⟩
            · rw [h2] at hb
              have := hnew b ((c1 q h1).2 b hb)
              exact ⟨this.2, .inl this.1, fun hx => by have := hR.xold b hx; omega⟩
            · rw [h2] at hb
              have := hR.own q h1 b hb
              exact ⟨Nat.lt_of_lt_of_le this.1 hB.size, this.2⟩
          disj := fun q q' b hq hq' hne hb hb' => by
            rcases hlive q hq with ⟨h1, h2, _⟩ | ⟨_, h1, h2, _⟩ <;> rcases hlive q' hq' with ⟨h1', h2', _⟩ | ⟨_, h1', h2', _⟩ <;> rw [h2] at hb <;> rw [h2'] at hb'
            · exact c2 q q' b h1 h1' hne hb hb'
            · have := (hnew b ((c1 q h1).2 b hb)).1; have := (hR.own q' h1' b hb').1; omega
            · have := (hnew b ((c1 q' h1').2 b hb')).1; have := (hR.own q h1 b hb).1; omega
            · exact hR.disj q q' b h1 h1' hne hb hb'
          xold := hR.xold, gold := hR.gold
          tmps := fun d hd => absurd rfl hd
          keeps := hR.keeps.trans hB }
  have fin : ∀ (X : Nat → Prop), (X = Own E (mkS [] H0 N) fp ∨ sc r = true) → ∀ e w', Back E.w0 X (· = r) e w' → Ends E H0 N (fun H1' n'' v' => H1' = H1 ++ H0 ∧ n'' = n' ∧ v' = v) e w' := by
    intro X hX e w' he
    cases e with
    | panicked c => exact he.elim
    | outgrown => exact he.elim
    | returned u =>
      obtain ⟨r', fr, rfl, h2, h3, h4, h5⟩ := he
      refine key w' u fr ?_ h3 h4 h5
      rcases hX with rfl | hX
      · exact h2
      · exact sc_shift h2 (by simp [scs, hX]) _
  rcases hm with hok | ⟨hok, hsc⟩
  · exact Calls.mono (hA.2 E.w0 (Own E (mkS [] H0 N) fp) us hXlt (args_apart hR 0 hv hok)) (fin _ (.inl rfl))
  · exact Calls.mono (hA.2 E.w0 noO us (fun b hb => hb.elim) (args_frozen hR 0 hv hok)) (fin _ (.inr hsc))
end Go.Amb

set_option linter.unusedSimpArgs false
set_option linter.unusedVariables false
namespace Go.Amb
open Go
/-- A call of a method value that is handed roots. -/
theorem evLm {P : Program} {i : AI} {is : List AI} {t : List (Nat × AV)} {h : Nat → Option Blk} {n : Nat} {u : Nat → Bool} {K : St → Prop} {d : Nat} {f : Nat} {x : AOpr} {caps : List AV} {args : List AOpr} {vs : List AV} {H0 : List (Nat × Blk)} {N : Nat} {Q : List (Nat × Blk) → Nat → AV → Prop}
    (hop : i.op = .callv x args) (hg : i.g = none) (hd : i.dst = some d) (hx : St.val ⟨mkT t, h, n, u⟩ x = .mfn f caps) (hvs : caps ++ args.map (St.val ⟨mkT t, h, n, u⟩) = vs) (hA : BCall P f H0 N vs Q) (hox : St.ok ⟨mkT t, h, n, u⟩ x) (ho : ∀ x ∈ args, St.ok ⟨mkT t, h, n, u⟩ x) (hH : ∀ p ∈ H0, h p.1 = some p.2) (hN : ∀ r, u r = true → r < N)
    (hk : ∀ H1 n' r, Q H1 n' r → evIs P is ⟨mkT ((d, r) :: t), over H0 H1 h, n, fun q => u q || (decide (N ≤ q) && decide (q < n'))⟩ K) : evIs P (i :: is) ⟨mkT t, h, n, u⟩ K := by
  refine .inl ?_
  show ev1 P i _ _
  unfold ev1
  rw [hg]
  show evOp P i _ _
  unfold evOp
  rw [hop]
  subst hvs
  refine ⟨hox, ho, ?_⟩
  rw [hx]
  refine .inr ⟨H0, N, Q, hA, fun q b hq => hH _ (mkH_mem hq), hN, fun H1 n' r hq => ?_⟩
  rw [hd]
  exact hk H1 n' r hq
theorem wLm  {P : Program} {i : AI} {is : List AI} {t : List (Nat × AV)} {h : Nat → Option Blk} {n : Nat} {u : Nat → Bool} {K : St → Prop} {d : Nat} {f : Nat} {x : AOpr} {caps : List AV} {args : List AOpr} {vs : List AV} {H0 : List (Nat × Blk)} {N : Nat} {Q : List (Nat × Blk) → Nat → AV → Prop} (hk : ∀ H1 n' r, Q H1 n' r → evIs P is ⟨mkT ((d, r) :: t), over H0 H1 h, n, fun q => u q || (decide (N ≤ q) && decide (q < n'))⟩ K) (hop : i.op = .callv x args := by exact rfl) (hg : i.g = none := by exact rfl) (hd : i.dst = some d := by exact rfl) (hx : St.val ⟨mkT t, h, n, u⟩ x = .mfn f caps := by conv => lhs; (try simp [hF, mkS, litA, fillA, maxI])) (hvs : caps ++ args.map (St.val ⟨mkT t, h, n, u⟩) = vs := by conv => lhs; (try simp [hF, mkS, litA, fillA, maxI])) (hA : BCall P f H0 N vs Q) (hox : St.ok ⟨mkT t, h, n, u⟩ x := by simp [hF, mkS, litA, fillA, maxI] <;> fail) (ho : ∀ x ∈ args, St.ok ⟨mkT t, h, n, u⟩ x := by simp [hF, mkS, litA, fillA, maxI] <;> fail) (hH : ∀ p ∈ H0, h p.1 = some p.2 := by simp [hF, mkS, litA, fillA, maxI] <;> fail) (hN : ∀ r, u r = true → r < N := by intro q hq; first | (simp [hF, mkS, litA, fillA, maxI] at hq; done) | (simp [hF, mkS, litA, fillA, maxI] at hq; omega)) : evIs P (i :: is) ⟨mkT t, h, n, u⟩ K :=
  evLm (hop := hop) (hg := hg) (hd := hd) (hx := hx) (hvs := hvs) (hA := hA) (hox := hox) (ho := ho) (hH := hH) (hN := hN) (hk := hk)
section
variable {P : Program} {is : List AI} {ws : List (Nat × List Nat)} {i : Nat} {ii : AI} {s : Sch} {l : List Nat} {t : List (Nat × AV)} {h : Nat → Option Blk} {n : Nat} {u : Nat → Bool} {K : St → Prop} {d g : Nat} {b : Bool} {v : AV}
theorem evD2n (hi : is[i]? = some ii) (hg : ii.g = some (g, b)) (hl : wsOf ws i = l) (hq : ii.op.quiet = false) (hd : ii.dst = some d)
    (hc : gcond ⟨mkT t, h, n, u⟩ g b = false) (hk : gok ⟨mkT t, h, n, u⟩ g) (hr : evIs P [] ⟨mkT ((d, .grd false .undef) :: t), h, n, u⟩ (fun st' => rechecks is st' l ∧ evT P is ws s st' K)) : evT P is ws (.one i s) ⟨mkT t, h, n, u⟩ K := by
  subst hl
  simp only [evT, ev1t, hi]
  unfold ev1
  rw [hg]
  simp only [hq, Bool.false_eq_true, if_false, hd]
  exact ⟨hk, fun e => absurd (hc.symm.trans e) (by simp), fun _ => hr⟩
theorem evD1x (hi : is[i]? = some ii) (hg : ii.g = some (g, b)) (hl : wsOf ws i = l) (hq : ii.op.quiet = true) (hd : ii.dst = some d)
    (hc : gcond ⟨mkT t, h, n, u⟩ g b = false) (hk : gok ⟨mkT t, h, n, u⟩ g) (hv : vop ⟨mkT t, h, n, u⟩ ii.k ii.op = v) (hr : evIs P [] ⟨mkT ((d, .grd false v) :: t), h, n, u⟩ (fun st' => rechecks is st' l ∧ evT P is ws s st' K)) : evT P is ws (.take i s) ⟨mkT t, h, n, u⟩ K := by
  subst hl hv
  simp only [evT, ev1t, hi]
  rw [ev1_quiet hq]
  unfold ok1 val1
  rw [hg, hd]
  refine ⟨⟨hk, fun e => absurd (hc.symm.trans e) (by simp)⟩, ?_⟩
  simp only [hc]
  exact hr
theorem wE5 (h' : evIs P [] ⟨mkT ((d, .grd false .undef) :: t), h, n, u⟩ (fun st' => rechecks is st' l ∧ evT P is ws s st' K)) (hi : is[i]? = some ii := by exact rfl) (hg : ii.g = some (g, b) := by exact rfl) (hl : wsOf ws i = l := by exact rfl) (hq : ii.op.quiet = false := by exact rfl) (hd : ii.dst = some d := by exact rfl) (hc : gcond ⟨mkT t, h, n, u⟩ g b = false := by simp [hF, mkS, litA, fillA, maxI] <;> fail) (hk : gok ⟨mkT t, h, n, u⟩ g := by simp [hF, mkS, litA, fillA, maxI] <;> fail) : evT P is ws (.one i s) ⟨mkT t, h, n, u⟩ K :=
  evD2n hi hg hl hq hd hc hk h'
theorem wE6 (h' : evIs P [] ⟨mkT ((d, .grd false v) :: t), h, n, u⟩ (fun st' => rechecks is st' l ∧ evT P is ws s st' K)) (hi : is[i]? = some ii := by exact rfl) (hg : ii.g = some (g, b) := by exact rfl) (hl : wsOf ws i = l := by exact rfl) (hq : ii.op.quiet = true := by exact rfl) (hd : ii.dst = some d := by exact rfl) (hc : gcond ⟨mkT t, h, n, u⟩ g b = false := by simp [hF, mkS, litA, fillA, maxI] <;> fail) (hk : gok ⟨mkT t, h, n, u⟩ g := by simp [hF, mkS, litA, fillA, maxI] <;> fail) (hv : vop ⟨mkT t, h, n, u⟩ ii.k ii.op = v := by conv => lhs; (try simp [hF, mkS, litA, fillA, maxI])) : evT P is ws (.take i s) ⟨mkT t, h, n, u⟩ K :=
  evD1x hi hg hl hq hd hc hk hv h'
theorem wE7 (h' : evIs P [] ⟨mkT ((d, .grd false v) :: t), h, n, u⟩ (fun st' => rechecks is st' l ∧ evT P is ws s st' K)) (hi : is[i]? = some ii := by exact rfl) (hg : ii.g = some (g, b) := by exact rfl) (hl : wsOf ws i = l := by exact rfl) (hq : ii.op.quiet = true := by exact rfl) (hd : ii.dst = some d := by exact rfl) (hc : gcond ⟨mkT t, h, n, u⟩ g b = false := by simp [hF, mkS, litA, fillA, maxI] <;> fail) (hk : gok ⟨mkT t, h, n, u⟩ g := by simp [hF, mkS, litA, fillA, maxI] <;> fail) (hv : vop ⟨mkT t, h, n, u⟩ ii.k ii.op = v := by conv => lhs; (try simp [hF, mkS, litA, fillA, maxI])) : evT P is ws (.one i s) ⟨mkT t, h, n, u⟩ K :=
  evD1x (s := s) hi hg hl hq hd hc hk hv h'
end
end Go.Amb

namespace Go.Amb
open Go
theorem AW.cutE {P : Program} {n : Nat} {γ : Type} {x y : ACode} {st : St} {Q : AE → St → Prop} (S : γ → St) (I : γ → Prop) (h : AW P n x st (fun e s => e = .normal ∧ ∃ g, I g ∧ Fit s (S g))) (k : ∀ g, I g → AW P n y (S g) Q) : AW P n (.seq x y) st Q :=
  AW.seq (AW.mono h fun e s ⟨he, g, hg, hf⟩ => by subst he; exact AW.fit hf (k g hg))
theorem AW.endE {P : Program} {n : Nat} {γ : Type} {x : ACode} {st : St} {Q : AE → St → Prop} (S : γ → St) (I : γ → Prop) (h : AW P n x st (fun e s => e = .normal ∧ ∃ g, I g ∧ Fit s (S g))) (k : ∀ g, I g → Q .normal (S g)) : AW P n x st Q :=
  AW.out (AW.mono h fun e s ⟨he, g, hg, hf⟩ => by subst he; exact ⟨S g, hf, k g hg⟩)
theorem AW.cutX {P : Program} {n : Nat} {γ : Type} {x y : ACode} {st : St} {Q : AE → St → Prop} (S : γ → St) (I : γ → Prop) (h : AW P n x st (fun e s => (e = .normal ∧ ∃ g, I g ∧ Fit s (S g)) ∨ (e ≠ .normal ∧ Q e s))) (k : ∀ g, I g → AW P n y (S g) Q) : AW P n (.seq x y) st Q :=
  AW.seq (AW.mono h (by
    rintro e s (⟨rfl, g, hg, hf⟩ | ⟨he, hq⟩)
    · exact AW.fit hf (k g hg)
    · cases e
      · exact absurd rfl he
      · exact hq
      · exact hq))
theorem mkS_eq (t : List (Nat × AV)) (h : List (Nat × Blk)) (n : Nat) : mkS t h n = ⟨mkT t, mkH h, n, fun r => decide (r < n)⟩ := rfl
end Go.Amb
