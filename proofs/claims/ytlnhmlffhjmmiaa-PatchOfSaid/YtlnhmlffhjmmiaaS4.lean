/- Contracts of chapter 19's functions, ninth part: the decisions in events. -/
import Derived.Test.YtlnhmlffhjmmiaaS3

set_option linter.unusedSimpArgs false
set_option linter.unusedVariables false
set_option maxHeartbeats 4000000
namespace Go.Proofs.Ytlnhmlffhjmmiaa
open Go Go.Amb Go.IntWalk

structure Event where
  e1 : Int
  kind : Int
  e3 : Int
  e4 : Int
  e5 : Int
  n : Int
  code : Int
  name : ByteArray
  key : ByteArray
  dk : Int
  dn : Int
  dt : ByteArray
  di : List Val
  ds : List ByteArray
  q : ByteArray
  p1 : Int
  p2 : Int
  p3 : Int
  p4 : Int
  p5 : Int
  p6 : Int
  p7 : Int
  p8 : Int
  fs : List ByteArray
def Event.av (e : Event) : AV := .agg [.int .i64 e.e1, .int .i64 e.kind, .int .i64 e.e3, .int .i64 e.e4, .int .i64 e.e5, .int .i64 e.n, .int .i64 e.code, .str e.name, .str e.key, .int .i64 e.dk, .int .i64 e.dn, .str e.dt, .sl .fro (avs e.di), .sl .fro (e.ds.map .str), .str e.q, .int .i64 e.p1, .int .i64 e.p2, .int .i64 e.p3, .int .i64 e.p4, .int .i64 e.p5, .int .i64 e.p6, .int .i64 e.p7, .int .i64 e.p8, .sl .fro (e.fs.map .str)]
def Event.ok (e : Event) : Prop := (Val.mk e.dk e.dn e.dt e.di e.ds).okv
abbrev evs (l : List Event) : AV := .sl .fro (l.map Event.av)
@[simp] theorem event_len (e : Event) : (cellsOf e.av).length = 24 := by simp [Event.av]
@[simp] theorem clC_event (e : Event) : clC e.av = e.av := by simp [Event.av]
def ofP (e : Event) : Option Patch :=
  if e.kind = 18 then if 0 ≤ e.n then some (newP e.name e.n) else if e.n = -1 then some ⟨1, e.name, 0, e.dk, e.dn, e.dt, e.di, e.ds⟩ else none else none
def ofI (l : List Event) (i : Nat) : List Patch := (l.take i).filterMap ofP
theorem ofP_v {e : Event} (hk : e.kind = 18) (h0 : 0 ≤ e.n) : ofP e = some (newP e.name e.n) := by simp [ofP, hk, h0]
theorem ofP_r {e : Event} (hk : e.kind = 18) (h0 : ¬ 0 ≤ e.n) (h1 : e.n = -1) : ofP e = some ⟨1, e.name, 0, e.dk, e.dn, e.dt, e.di, e.ds⟩ := by
  unfold ofP
  rw [if_pos hk, if_neg h0, if_pos h1]
theorem ofP_n {e : Event} (hk : e.kind = 18) (h0 : ¬ 0 ≤ e.n) (h1 : ¬ e.n = -1) : ofP e = none := by
  unfold ofP
  rw [if_pos hk, if_neg h0, if_neg h1]
theorem ofP_k {e : Event} (hk : ¬ e.kind = 18) : ofP e = none := by
  unfold ofP
  rw [if_neg hk]
theorem ofI_zero (l : List Event) : ofI l 0 = [] := by simp [ofI]
theorem ofI_full (l : List Event) : ofI l l.length = l.filterMap ofP := by simp [ofI]
theorem ofI_some {l : List Event} {i : Nat} {e : Event} {p : Patch} (h : l[i]? = some e) (hp : ofP e = some p) : ofI l (i + 1) = ofI l i ++ [p] := by
  simp [ofI, List.take_add_one, h, hp]
theorem ofI_none {l : List Event} {i : Nat} {e : Event} (h : l[i]? = some e) (hp : ofP e = none) : ofI l (i + 1) = ofI l i := by
  simp [ofI, List.take_add_one, h, hp]
theorem ofI_len (l : List Event) (i : Nat) : (ofI l i).length ≤ i :=
  Nat.le_trans (List.length_filterMap_le _ _) (by simp; omega)
theorem ofP_ok {e : Event} {p : Patch} (he : e.ok) (hp : ofP e = some p) : p.ok := by
  unfold ofP at hp
  split at hp
  · split at hp
    · injection hp with hp; subst hp; exact newP_ok _ _
    · split at hp
      · injection hp with hp; subst hp; exact he
      · cases hp
  · cases hp
theorem of_ok {l : List Event} (h : ∀ e ∈ l, e.ok) : ∀ p ∈ l.filterMap ofP, p.ok := fun p hp => by
  obtain ⟨e, he, hpe⟩ := List.mem_filterMap.1 hp
  exact ofP_ok (h e he) hpe
theorem f19 (l : List Event) (hok : ∀ e ∈ l, e.ok) (hl : l.length ≤ 1000000) : ACall Try.prog 19 [evs l] (· = .sl (.own 8) ((l.filterMap ofP).map Patch.av)) := by
  have hk0 : 0 ≤ l.length := by omega
  refine a19_of (by simp) ?_
  repeat refine AW.seq ?_
  refine AW.reg ?_
  have hF := True.intro
  repeat (first | refine wD1 ?_ | refine wD2 ?_ | refine wE1 ?_ | refine wE2 ?_ | (refine wE3 ?_; intro _) | (refine wE4 ?_; intro _) | refine wN ?_ | ((with_reducible show evIs _ (_ :: _) _ _); first | refine wQ ?_ | refine wF ?_ | refine wG ?_ | refine wT ?_ | refine wM ?_ | refine wS ?_ | refine wP ?_ | refine wJ ?_ | refine wX ?_ | refine wY ?_))
  clear hF
  repeat refine evDone ?_
  try (show AW _ _ _ _ _)
  repeat refine AW.seq ?_
  refine AW.reg ?_
  have hF := True.intro
  repeat (first | refine wD1 ?_ | refine wD2 ?_ | refine wE1 ?_ | refine wE2 ?_ | (refine wE3 ?_; intro _) | (refine wE4 ?_; intro _) | refine wN ?_ | ((with_reducible show evIs _ (_ :: _) _ _); first | refine wQ ?_ | refine wF ?_ | refine wG ?_ | refine wT ?_ | refine wM ?_ | refine wS ?_ | refine wP ?_ | refine wJ ?_ | refine wX ?_ | refine wY ?_))
  clear hF
  repeat refine evDone ?_
  try (show AW _ _ _ _ _)
  repeat refine AW.seq ?_
  refine AW.reg ?_
  have hF := True.intro
  repeat (first | refine wD1 ?_ | refine wD2 ?_ | refine wE1 ?_ | refine wE2 ?_ | (refine wE3 ?_; intro _) | (refine wE4 ?_; intro _) | refine wN ?_ | ((with_reducible show evIs _ (_ :: _) _ _); first | refine wQ ?_ | refine wF ?_ | refine wG ?_ | refine wT ?_ | refine wM ?_ | refine wS ?_ | refine wP ?_ | refine wJ ?_ | refine wX ?_ | refine wY ?_))
  clear hF
  repeat refine evDone ?_
  try (show AW _ _ _ _ _)
  repeat refine AW.seq ?_
  refine AW.block ?_
  refine AW.loop (fun g : Nat × Nat × Nat => g.1 ≤ l.length ∧ g.2.2 < g.2.1 ∧ 0 ≤ g.2.2 ∧ 0 ≤ g.2.1) (fun g => mkS [(3, .hdr g.2.2 0 (ofI l g.1).length), (6, evs l), (7, .int .i64 l.length), (8, .int .i64 g.1)] [(g.2.2, ⟨8, false, (ofI l g.1).map Patch.av⟩)] g.2.1) (fun g => l.length - g.1) (0, 20, 10) ⟨by simp, by simp, by simp, by simp⟩ ?_ ?_
  · refine Fit.mk _ _ _ (by simp [hk0, ofI_zero, conv2, newEmp, convs_refl, convs, conv]) (by simp [hk0, ofI_zero, heapFit, newEmp, conv2s, conv2, convs_refl, convs, conv]) (by intro q hq; first | (simp at hq; done) | (simp at hq; omega) | (simp at hq; simp; omega))
  · rintro ⟨i, n, r⟩ ⟨hi, hr, hbr, hbn⟩
    dsimp only at hi hr hbr hbn ⊢
    have hne : ∀ k, (r = n + k) = False := fun k => eq_false (by omega)
    have hne' : ∀ k, (n + k = r) = False := fun k => eq_false (by omega)
    have hnl : ∀ k, (n + k < n) = False := fun k => eq_false (by omega)
    have hrn : ∀ k, r < n + k := fun k => by omega

    repeat refine AW.seq ?_
    refine AW.reg ?_
    by_cases hlt : i < l.length
    · have hF := hlt
      repeat (first | refine wD1 ?_ | refine wD2 ?_ | refine wE1 ?_ | refine wE2 ?_ | (refine wE3 ?_; intro _) | (refine wE4 ?_; intro _) | refine wN ?_ | ((with_reducible show evIs _ (_ :: _) _ _); first | refine wQ ?_ | refine wF ?_ | refine wG ?_ | refine wT ?_ | refine wM ?_ | refine wS ?_ | refine wP ?_ | refine wJ ?_ | refine wX ?_ | refine wY ?_))
      clear hF
      repeat refine evDone ?_
      try (show AW _ _ _ _ _)
      repeat refine AW.seq ?_
      refine AW.condT (by simp []) (by simp []) ?_
      refine AW.skip ?_
      show AW _ _ _ _ _
      refine AW.seq (AW.block ?_)
      have hx : ∃ x, l[i]? = some x := ⟨_, List.getElem?_eq_getElem hlt⟩
      obtain ⟨x, hx⟩ := hx
      have he := elem_map (f := Event.av) hx
      have hxo := hok x (List.mem_of_getElem? hx)
      have hxx := hx
      obtain ⟨e1, kind, e3, e4, e5, en, code, name, key, dk, dn, dt, di, ds, q, p1, p2, p3, p4, p5, p6, p7, p8, fs⟩ := x
      have hc := f31 dk dn dt di ds hxo
      simp only [Event.av] at he
      have hcl := clC_avs di
      have hcs := strs_cl ds
      repeat refine AW.seq ?_
      refine AW.reg ?_
      have hF := And.intro (hlt) (And.intro (he) (And.intro (hne) (And.intro (hne') (hnl))))
      repeat (first | refine wD1 ?_ | refine wD2 ?_ | refine wE1 ?_ | refine wE2 ?_ | (refine wE3 ?_; intro _) | (refine wE4 ?_; intro _) | refine wN ?_ | ((with_reducible show evIs _ (_ :: _) _ _); first | refine wQ ?_ | refine wF ?_ | refine wG ?_ | refine wT ?_ | refine wM ?_ | refine wS ?_ | refine wP ?_ | refine wJ ?_ | refine wX ?_ | refine wY ?_))
      clear hF
      repeat refine evDone ?_
      try (show AW _ _ _ _ _)
      repeat refine AW.seq ?_
      refine AW.reg ?_
      have hF := And.intro (hne) (And.intro (hne') (hnl))
      repeat (first | refine wD1 ?_ | refine wD2 ?_ | refine wE1 ?_ | refine wE2 ?_ | (refine wE3 ?_; intro _) | (refine wE4 ?_; intro _) | refine wN ?_ | ((with_reducible show evIs _ (_ :: _) _ _); first | refine wQ ?_ | refine wF ?_ | refine wG ?_ | refine wT ?_ | refine wM ?_ | refine wS ?_ | refine wP ?_ | refine wJ ?_ | refine wX ?_ | refine wY ?_))
      clear hF
      repeat refine evDone ?_
      try (show AW _ _ _ _ _)
      by_cases hk : kind = 18
      · have hF := hk
        repeat (first | refine wD1 ?_ | refine wD2 ?_ | refine wE1 ?_ | refine wE2 ?_ | (refine wE3 ?_; intro _) | (refine wE4 ?_; intro _) | refine wN ?_ | ((with_reducible show evIs _ (_ :: _) _ _); first | refine wQ ?_ | refine wF ?_ | refine wG ?_ | refine wT ?_ | refine wM ?_ | refine wS ?_ | refine wP ?_ | refine wJ ?_ | refine wX ?_ | refine wY ?_))
        clear hF
        repeat refine evDone ?_
        try (show AW _ _ _ _ _)
        repeat refine AW.seq ?_
        refine AW.condF (by simp [hk]) (by simp [hk]) ?_
        refine AW.skip ?_
        show AW _ _ _ _ _
        repeat refine AW.seq ?_
        refine AW.reg ?_
        have hF := And.intro (hne) (And.intro (hne') (hnl))
        repeat (first | refine wD1 ?_ | refine wD2 ?_ | refine wE1 ?_ | refine wE2 ?_ | (refine wE3 ?_; intro _) | (refine wE4 ?_; intro _) | refine wN ?_ | ((with_reducible show evIs _ (_ :: _) _ _); first | refine wQ ?_ | refine wF ?_ | refine wG ?_ | refine wT ?_ | refine wM ?_ | refine wS ?_ | refine wP ?_ | refine wJ ?_ | refine wX ?_ | refine wY ?_))
        clear hF
        repeat refine evDone ?_
        try (show AW _ _ _ _ _)
        by_cases h0 : 0 ≤ en
        · have hn1 : ¬ en = -1 := by omega
          have hso := ofI_some hxx (ofP_v hk h0)
          have hlo := ofI_len l i
          have hby : ((ofI l i).length + 1) * 112 ≤ 140737488355328 := by omega
          have hby2 : (ofI l i).length + 1 ≤ 9223372036854775807 := by omega
          have hF := And.intro (h0) (And.intro (hne) (And.intro (hne') (hnl)))
          repeat (first | refine wD1 ?_ | refine wD2 ?_ | refine wE1 ?_ | refine wE2 ?_ | (refine wE3 ?_; intro _) | (refine wE4 ?_; intro _) | refine wN ?_ | ((with_reducible show evIs _ (_ :: _) _ _); first | refine wQ ?_ | refine wF ?_ | refine wG ?_ | refine wT ?_ | refine wM ?_ | refine wS ?_ | refine wP ?_ | refine wJ ?_ | refine wX ?_ | refine wY ?_))
          clear hF
          repeat refine evDone ?_
          try (show AW _ _ _ _ _)
          repeat refine AW.seq ?_
          refine AW.condT (by simp [h0]) (by simp [h0]) ?_
          repeat refine AW.seq ?_
          refine AW.reg ?_
          have hF := And.intro (hne) (And.intro (hne') (And.intro (hnl) (And.intro (hby) (hby2))))
          repeat (first | refine wD1 ?_ | refine wD2 ?_ | refine wE1 ?_ | refine wE2 ?_ | (refine wE3 ?_; intro _) | (refine wE4 ?_; intro _) | refine wN ?_ | ((with_reducible show evIs _ (_ :: _) _ _); first | refine wQ ?_ | refine wF ?_ | refine wG ?_ | refine wT ?_ | refine wM ?_ | refine wS ?_ | refine wP ?_ | refine wJ ?_ | refine wX ?_ | refine wY ?_))
          clear hF
          repeat refine evDone ?_
          try (show AW _ _ _ _ _)
          refine AW.reg ?_
          have hw : IntKind.i64.wrap ((i : Int) + 1) = (i : Int) + 1 := i64_in _ ⟨by omega, by omega⟩
          have hF := hw
          repeat (first | refine wD1 ?_ | refine wD2 ?_ | refine wE1 ?_ | refine wE2 ?_ | (refine wE3 ?_; intro _) | (refine wE4 ?_; intro _) | refine wN ?_ | ((with_reducible show evIs _ (_ :: _) _ _); first | refine wQ ?_ | refine wF ?_ | refine wG ?_ | refine wT ?_ | refine wM ?_ | refine wS ?_ | refine wP ?_ | refine wJ ?_ | refine wX ?_ | refine wY ?_))
          clear hF
          repeat refine evDone ?_
          try (show AW _ _ _ _ _)
          refine ⟨(i + 1, n + 80, n + 23), ⟨by dsimp only; omega, by dsimp only; omega, by dsimp only; omega, by dsimp only; omega⟩, by dsimp only; omega, ?_⟩
          refine Fit.mk _ _ _ (by simp [hw, hne, hne', hrn, hso, newP, Patch.av, avs, conv2, newEmp, convs_refl, convs, conv]) (by simp [hw, hne, hne', hrn, hso, newP, Patch.av, avs, heapFit, newEmp, conv2s, conv2, convs_refl, convs, conv]) (by intro q hq; first | (simp at hq; done) | (simp at hq; omega) | (simp at hq; simp; omega))
        · have hF := And.intro (h0) (And.intro (hne) (And.intro (hne') (hnl)))
          repeat (first | refine wD1 ?_ | refine wD2 ?_ | refine wE1 ?_ | refine wE2 ?_ | (refine wE3 ?_; intro _) | (refine wE4 ?_; intro _) | refine wN ?_ | ((with_reducible show evIs _ (_ :: _) _ _); first | refine wQ ?_ | refine wF ?_ | refine wG ?_ | refine wT ?_ | refine wM ?_ | refine wS ?_ | refine wP ?_ | refine wJ ?_ | refine wX ?_ | refine wY ?_))
          clear hF
          repeat refine evDone ?_
          try (show AW _ _ _ _ _)
          repeat refine AW.seq ?_
          refine AW.condF (by simp [h0]) (by simp [h0]) ?_
          repeat refine AW.seq ?_
          refine AW.reg ?_
          by_cases h1 : en = -1
          · have hso := ofI_some hxx (ofP_r hk h0 h1)
            have hlo := ofI_len l i
            have hby : ((ofI l i).length + 1) * 112 ≤ 140737488355328 := by omega
            have hby2 : (ofI l i).length + 1 ≤ 9223372036854775807 := by omega
            have hF := And.intro (h1) (And.intro (hne) (And.intro (hne') (hnl)))
            repeat (first | refine wD1 ?_ | refine wD2 ?_ | refine wE1 ?_ | refine wE2 ?_ | (refine wE3 ?_; intro _) | (refine wE4 ?_; intro _) | refine wN ?_ | ((with_reducible show evIs _ (_ :: _) _ _); first | refine wQ ?_ | refine wF ?_ | refine wG ?_ | refine wT ?_ | refine wM ?_ | refine wS ?_ | refine wP ?_ | refine wJ ?_ | refine wX ?_ | refine wY ?_))
            clear hF
            repeat refine evDone ?_
            try (show AW _ _ _ _ _)
            repeat refine AW.seq ?_
            refine AW.condT (by simp [h1]) (by simp [h1]) ?_
            repeat refine AW.seq ?_
            refine AW.draw ?_
            have hF := And.intro (hne) (And.intro (hne') (hnl))
            repeat (first | refine wD1 ?_ | refine wD2 ?_ | refine wE1 ?_ | refine wE2 ?_ | (refine wE3 ?_; intro _) | (refine wE4 ?_; intro _) | refine wN ?_ | ((with_reducible show evIs _ (_ :: _) _ _); first | refine wQ ?_ | refine wF ?_ | refine wG ?_ | refine wT ?_ | refine wM ?_ | refine wS ?_ | refine wP ?_ | refine wJ ?_ | refine wX ?_ | refine wY ?_))
            clear hF
            repeat refine evDone ?_
            try (show AW _ _ _ _ _)
            have hF := And.intro (hcl) (And.intro (hcs) (And.intro (hne) (And.intro (hne') (hnl))))
            refine wC (hA := hc) ?_
            clear hF
            have hF := And.intro (hne) (And.intro (hne') (And.intro (hnl) (And.intro (hby) (hby2))))
            repeat (first | refine wD1 ?_ | refine wD2 ?_ | refine wE1 ?_ | refine wE2 ?_ | (refine wE3 ?_; intro _) | (refine wE4 ?_; intro _) | refine wN ?_ | ((with_reducible show evIs _ (_ :: _) _ _); first | refine wQ ?_ | refine wF ?_ | refine wG ?_ | refine wT ?_ | refine wM ?_ | refine wS ?_ | refine wP ?_ | refine wJ ?_ | refine wX ?_ | refine wY ?_))
            clear hF
            repeat refine evDone ?_
            try (show AW _ _ _ _ _)
            refine AW.reg ?_
            have hw : IntKind.i64.wrap ((i : Int) + 1) = (i : Int) + 1 := i64_in _ ⟨by omega, by omega⟩
            have hF := hw
            repeat (first | refine wD1 ?_ | refine wD2 ?_ | refine wE1 ?_ | refine wE2 ?_ | (refine wE3 ?_; intro _) | (refine wE4 ?_; intro _) | refine wN ?_ | ((with_reducible show evIs _ (_ :: _) _ _); first | refine wQ ?_ | refine wF ?_ | refine wG ?_ | refine wT ?_ | refine wM ?_ | refine wS ?_ | refine wP ?_ | refine wJ ?_ | refine wX ?_ | refine wY ?_))
            clear hF
            repeat refine evDone ?_
            try (show AW _ _ _ _ _)
            refine ⟨(i + 1, n + 80, n + 36), ⟨by dsimp only; omega, by dsimp only; omega, by dsimp only; omega, by dsimp only; omega⟩, by dsimp only; omega, ?_⟩
            refine Fit.mk _ _ _ (by simp [hw, hne, hne', hrn, hso, Patch.av, avs, conv2, newEmp, convs_refl, convs, conv]) (by simp [hw, hne, hne', hrn, hso, Patch.av, avs, heapFit, newEmp, conv2s, conv2, convs_refl, convs, conv]) (by intro q hq; first | (simp at hq; done) | (simp at hq; omega) | (simp at hq; simp; omega))
          · have hno := ofI_none hxx (ofP_n hk h0 h1)
            have hF := And.intro (h1) (And.intro (hne) (And.intro (hne') (hnl)))
            repeat (first | refine wD1 ?_ | refine wD2 ?_ | refine wE1 ?_ | refine wE2 ?_ | (refine wE3 ?_; intro _) | (refine wE4 ?_; intro _) | refine wN ?_ | ((with_reducible show evIs _ (_ :: _) _ _); first | refine wQ ?_ | refine wF ?_ | refine wG ?_ | refine wT ?_ | refine wM ?_ | refine wS ?_ | refine wP ?_ | refine wJ ?_ | refine wX ?_ | refine wY ?_))
            clear hF
            repeat refine evDone ?_
            try (show AW _ _ _ _ _)
            repeat refine AW.seq ?_
            refine AW.condF (by simp [h1]) (by simp [h1]) ?_
            refine AW.skip ?_
            show AW _ _ _ _ _
            refine AW.reg ?_
            have hw : IntKind.i64.wrap ((i : Int) + 1) = (i : Int) + 1 := i64_in _ ⟨by omega, by omega⟩
            have hF := hw
            repeat (first | refine wD1 ?_ | refine wD2 ?_ | refine wE1 ?_ | refine wE2 ?_ | (refine wE3 ?_; intro _) | (refine wE4 ?_; intro _) | refine wN ?_ | ((with_reducible show evIs _ (_ :: _) _ _); first | refine wQ ?_ | refine wF ?_ | refine wG ?_ | refine wT ?_ | refine wM ?_ | refine wS ?_ | refine wP ?_ | refine wJ ?_ | refine wX ?_ | refine wY ?_))
            clear hF
            repeat refine evDone ?_
            try (show AW _ _ _ _ _)
            refine ⟨(i + 1, n + 80, r), ⟨by dsimp only; omega, by dsimp only; omega, by dsimp only; omega, by dsimp only; omega⟩, by dsimp only; omega, ?_⟩
            refine Fit.mk _ _ _ (by simp [hw, hne, hne', hrn, hno, conv2, newEmp, convs_refl, convs, conv]) (by simp [hw, hne, hne', hrn, hno, heapFit, newEmp, conv2s, conv2, convs_refl, convs, conv]) (by intro q hq; first | (simp at hq; done) | (simp at hq; omega) | (simp at hq; simp; omega))
      · have hno := ofI_none hxx (ofP_k hk)
        have hF := hk
        repeat (first | refine wD1 ?_ | refine wD2 ?_ | refine wE1 ?_ | refine wE2 ?_ | (refine wE3 ?_; intro _) | (refine wE4 ?_; intro _) | refine wN ?_ | ((with_reducible show evIs _ (_ :: _) _ _); first | refine wQ ?_ | refine wF ?_ | refine wG ?_ | refine wT ?_ | refine wM ?_ | refine wS ?_ | refine wP ?_ | refine wJ ?_ | refine wX ?_ | refine wY ?_))
        clear hF
        repeat refine evDone ?_
        try (show AW _ _ _ _ _)
        repeat refine AW.seq ?_
        refine AW.condT (by simp [hk]) (by simp [hk]) ?_
        refine AW.exit ?_
        show AW _ _ _ _ _
        refine AW.reg ?_
        have hw : IntKind.i64.wrap ((i : Int) + 1) = (i : Int) + 1 := i64_in _ ⟨by omega, by omega⟩
        have hF := hw
        repeat (first | refine wD1 ?_ | refine wD2 ?_ | refine wE1 ?_ | refine wE2 ?_ | (refine wE3 ?_; intro _) | (refine wE4 ?_; intro _) | refine wN ?_ | ((with_reducible show evIs _ (_ :: _) _ _); first | refine wQ ?_ | refine wF ?_ | refine wG ?_ | refine wT ?_ | refine wM ?_ | refine wS ?_ | refine wP ?_ | refine wJ ?_ | refine wX ?_ | refine wY ?_))
        clear hF
        repeat refine evDone ?_
        try (show AW _ _ _ _ _)
        refine ⟨(i + 1, n + 80, r), ⟨by dsimp only; omega, by dsimp only; omega, by dsimp only; omega, by dsimp only; omega⟩, by dsimp only; omega, ?_⟩
        refine Fit.mk _ _ _ (by simp [hw, hne, hne', hrn, hno, conv2, newEmp, convs_refl, convs, conv]) (by simp [hw, hne, hne', hrn, hno, heapFit, newEmp, conv2s, conv2, convs_refl, convs, conv]) (by intro q hq; first | (simp at hq; done) | (simp at hq; omega) | (simp at hq; simp; omega))
    · have hlt2 : ¬ (i : Int) < l.length := by omega
      have hF := And.intro (hlt) (hlt2)
      repeat (first | refine wD1 ?_ | refine wD2 ?_ | refine wE1 ?_ | refine wE2 ?_ | (refine wE3 ?_; intro _) | (refine wE4 ?_; intro _) | refine wN ?_ | ((with_reducible show evIs _ (_ :: _) _ _); first | refine wQ ?_ | refine wF ?_ | refine wG ?_ | refine wT ?_ | refine wM ?_ | refine wS ?_ | refine wP ?_ | refine wJ ?_ | refine wX ?_ | refine wY ?_))
      clear hF
      repeat refine evDone ?_
      try (show AW _ _ _ _ _)
      repeat refine AW.seq ?_
      refine AW.condF (by simp []) (by simp []) ?_
      refine AW.exit ?_
      show AW _ _ _ _ _
      have hii : i = l.length := by omega
      subst hii
      have ht : ((l.filterMap ofP).map Patch.av).take (l.filterMap ofP).length = (l.filterMap ofP).map Patch.av := take_all (by simp)
      have hf := ofI_full l
      repeat refine AW.seq ?_
      refine AW.reg ?_
      have hF := And.intro (hne) (And.intro (hne') (hnl))
      repeat (first | refine wD1 ?_ | refine wD2 ?_ | refine wE1 ?_ | refine wE2 ?_ | (refine wE3 ?_; intro _) | (refine wE4 ?_; intro _) | refine wN ?_ | ((with_reducible show evIs _ (_ :: _) _ _); first | refine wQ ?_ | refine wF ?_ | refine wG ?_ | refine wT ?_ | refine wM ?_ | refine wS ?_ | refine wP ?_ | refine wJ ?_ | refine wX ?_ | refine wY ?_))
      clear hF
      repeat refine evDone ?_
      try (show AW _ _ _ _ _)
      refine AW.ret (retI rfl ?_)
      simp [hf, ht, a19_res, resOk, resP, resV, ARes.op, R2s, R2, R1s, R1, closeOk, closeV]
theorem f20 (l : List Event) (hok : ∀ e ∈ l, e.ok) (hl : l.length ≤ 1000000) : ACall Try.prog 20 [evs l] (· = .sl (.own 8) ((l.filterMap ofP).map Patch.av)) := by
  have hk0 : 0 ≤ l.length := by omega
  refine a20_of (by simp) ?_
  repeat refine AW.seq ?_
  refine AW.reg ?_
  have hF := True.intro
  repeat (first | refine wD1 ?_ | refine wD2 ?_ | refine wE1 ?_ | refine wE2 ?_ | (refine wE3 ?_; intro _) | (refine wE4 ?_; intro _) | refine wN ?_ | ((with_reducible show evIs _ (_ :: _) _ _); first | refine wQ ?_ | refine wF ?_ | refine wG ?_ | refine wT ?_ | refine wM ?_ | refine wS ?_ | refine wP ?_ | refine wJ ?_ | refine wX ?_ | refine wY ?_))
  clear hF
  repeat refine evDone ?_
  try (show AW _ _ _ _ _)
  repeat refine AW.seq ?_
  refine AW.reg ?_
  have hF := True.intro
  repeat (first | refine wD1 ?_ | refine wD2 ?_ | refine wE1 ?_ | refine wE2 ?_ | (refine wE3 ?_; intro _) | (refine wE4 ?_; intro _) | refine wN ?_ | ((with_reducible show evIs _ (_ :: _) _ _); first | refine wQ ?_ | refine wF ?_ | refine wG ?_ | refine wT ?_ | refine wM ?_ | refine wS ?_ | refine wP ?_ | refine wJ ?_ | refine wX ?_ | refine wY ?_))
  clear hF
  repeat refine evDone ?_
  try (show AW _ _ _ _ _)
  repeat refine AW.seq ?_
  refine AW.reg ?_
  have hF := True.intro
  repeat (first | refine wD1 ?_ | refine wD2 ?_ | refine wE1 ?_ | refine wE2 ?_ | (refine wE3 ?_; intro _) | (refine wE4 ?_; intro _) | refine wN ?_ | ((with_reducible show evIs _ (_ :: _) _ _); first | refine wQ ?_ | refine wF ?_ | refine wG ?_ | refine wT ?_ | refine wM ?_ | refine wS ?_ | refine wP ?_ | refine wJ ?_ | refine wX ?_ | refine wY ?_))
  clear hF
  repeat refine evDone ?_
  try (show AW _ _ _ _ _)
  repeat refine AW.seq ?_
  refine AW.block ?_
  refine AW.loop (fun g : Nat × Nat × Nat => g.1 ≤ l.length ∧ g.2.2 < g.2.1 ∧ 0 ≤ g.2.2 ∧ 0 ≤ g.2.1) (fun g => mkS [(3, .hdr g.2.2 0 (ofI l g.1).length), (6, evs l), (7, .int .i64 l.length), (8, .int .i64 g.1)] [(g.2.2, ⟨8, false, (ofI l g.1).map Patch.av⟩)] g.2.1) (fun g => l.length - g.1) (0, 20, 10) ⟨by simp, by simp, by simp, by simp⟩ ?_ ?_
  · refine Fit.mk _ _ _ (by simp [hk0, ofI_zero, conv2, newEmp, convs_refl, convs, conv]) (by simp [hk0, ofI_zero, heapFit, newEmp, conv2s, conv2, convs_refl, convs, conv]) (by intro q hq; first | (simp at hq; done) | (simp at hq; omega) | (simp at hq; simp; omega))
  · rintro ⟨i, n, r⟩ ⟨hi, hr, hbr, hbn⟩
    dsimp only at hi hr hbr hbn ⊢
    have hne : ∀ k, (r = n + k) = False := fun k => eq_false (by omega)
    have hne' : ∀ k, (n + k = r) = False := fun k => eq_false (by omega)
    have hnl : ∀ k, (n + k < n) = False := fun k => eq_false (by omega)
    have hrn : ∀ k, r < n + k := fun k => by omega

    repeat refine AW.seq ?_
    refine AW.reg ?_
    by_cases hlt : i < l.length
    · have hF := hlt
      repeat (first | refine wD1 ?_ | refine wD2 ?_ | refine wE1 ?_ | refine wE2 ?_ | (refine wE3 ?_; intro _) | (refine wE4 ?_; intro _) | refine wN ?_ | ((with_reducible show evIs _ (_ :: _) _ _); first | refine wQ ?_ | refine wF ?_ | refine wG ?_ | refine wT ?_ | refine wM ?_ | refine wS ?_ | refine wP ?_ | refine wJ ?_ | refine wX ?_ | refine wY ?_))
      clear hF
      repeat refine evDone ?_
      try (show AW _ _ _ _ _)
      repeat refine AW.seq ?_
      refine AW.condT (by simp []) (by simp []) ?_
      refine AW.skip ?_
      show AW _ _ _ _ _
      refine AW.seq (AW.block ?_)
      have hx : ∃ x, l[i]? = some x := ⟨_, List.getElem?_eq_getElem hlt⟩
      obtain ⟨x, hx⟩ := hx
      have he := elem_map (f := Event.av) hx
      have hxo := hok x (List.mem_of_getElem? hx)
      have hxx := hx
      obtain ⟨e1, kind, e3, e4, e5, en, code, name, key, dk, dn, dt, di, ds, q, p1, p2, p3, p4, p5, p6, p7, p8, fs⟩ := x
      have hc := f29 (.mk dk dn dt di ds) hxo
      simp only [Val.av, Val.am] at hc
      simp only [Event.av] at he
      have hcl := clC_avs di
      have hcs := strs_cl ds
      repeat refine AW.seq ?_
      refine AW.reg ?_
      have hF := And.intro (hlt) (And.intro (he) (And.intro (hne) (And.intro (hne') (hnl))))
      repeat (first | refine wD1 ?_ | refine wD2 ?_ | refine wE1 ?_ | refine wE2 ?_ | (refine wE3 ?_; intro _) | (refine wE4 ?_; intro _) | refine wN ?_ | ((with_reducible show evIs _ (_ :: _) _ _); first | refine wQ ?_ | refine wF ?_ | refine wG ?_ | refine wT ?_ | refine wM ?_ | refine wS ?_ | refine wP ?_ | refine wJ ?_ | refine wX ?_ | refine wY ?_))
      clear hF
      repeat refine evDone ?_
      try (show AW _ _ _ _ _)
      repeat refine AW.seq ?_
      refine AW.reg ?_
      have hF := And.intro (hne) (And.intro (hne') (hnl))
      repeat (first | refine wD1 ?_ | refine wD2 ?_ | refine wE1 ?_ | refine wE2 ?_ | (refine wE3 ?_; intro _) | (refine wE4 ?_; intro _) | refine wN ?_ | ((with_reducible show evIs _ (_ :: _) _ _); first | refine wQ ?_ | refine wF ?_ | refine wG ?_ | refine wT ?_ | refine wM ?_ | refine wS ?_ | refine wP ?_ | refine wJ ?_ | refine wX ?_ | refine wY ?_))
      clear hF
      repeat refine evDone ?_
      try (show AW _ _ _ _ _)
      by_cases hk : kind = 18
      · have hF := hk
        repeat (first | refine wD1 ?_ | refine wD2 ?_ | refine wE1 ?_ | refine wE2 ?_ | (refine wE3 ?_; intro _) | (refine wE4 ?_; intro _) | refine wN ?_ | ((with_reducible show evIs _ (_ :: _) _ _); first | refine wQ ?_ | refine wF ?_ | refine wG ?_ | refine wT ?_ | refine wM ?_ | refine wS ?_ | refine wP ?_ | refine wJ ?_ | refine wX ?_ | refine wY ?_))
        clear hF
        repeat refine evDone ?_
        try (show AW _ _ _ _ _)
        repeat refine AW.seq ?_
        refine AW.condF (by simp [hk]) (by simp [hk]) ?_
        refine AW.skip ?_
        show AW _ _ _ _ _
        repeat refine AW.seq ?_
        refine AW.reg ?_
        have hF := And.intro (hne) (And.intro (hne') (hnl))
        repeat (first | refine wD1 ?_ | refine wD2 ?_ | refine wE1 ?_ | refine wE2 ?_ | (refine wE3 ?_; intro _) | (refine wE4 ?_; intro _) | refine wN ?_ | ((with_reducible show evIs _ (_ :: _) _ _); first | refine wQ ?_ | refine wF ?_ | refine wG ?_ | refine wT ?_ | refine wM ?_ | refine wS ?_ | refine wP ?_ | refine wJ ?_ | refine wX ?_ | refine wY ?_))
        clear hF
        repeat refine evDone ?_
        try (show AW _ _ _ _ _)
        by_cases h0 : 0 ≤ en
        · have hn1 : ¬ en = -1 := by omega
          have hso := ofI_some hxx (ofP_v hk h0)
          have hlo := ofI_len l i
          have hby : ((ofI l i).length + 1) * 112 ≤ 140737488355328 := by omega
          have hby2 : (ofI l i).length + 1 ≤ 9223372036854775807 := by omega
          have hF := And.intro (h0) (And.intro (hne) (And.intro (hne') (hnl)))
          repeat (first | refine wD1 ?_ | refine wD2 ?_ | refine wE1 ?_ | refine wE2 ?_ | (refine wE3 ?_; intro _) | (refine wE4 ?_; intro _) | refine wN ?_ | ((with_reducible show evIs _ (_ :: _) _ _); first | refine wQ ?_ | refine wF ?_ | refine wG ?_ | refine wT ?_ | refine wM ?_ | refine wS ?_ | refine wP ?_ | refine wJ ?_ | refine wX ?_ | refine wY ?_))
          clear hF
          repeat refine evDone ?_
          try (show AW _ _ _ _ _)
          repeat refine AW.seq ?_
          refine AW.condT (by simp [h0]) (by simp [h0]) ?_
          repeat refine AW.seq ?_
          refine AW.reg ?_
          have hF := And.intro (hne) (And.intro (hne') (And.intro (hnl) (And.intro (hby) (hby2))))
          repeat (first | refine wD1 ?_ | refine wD2 ?_ | refine wE1 ?_ | refine wE2 ?_ | (refine wE3 ?_; intro _) | (refine wE4 ?_; intro _) | refine wN ?_ | ((with_reducible show evIs _ (_ :: _) _ _); first | refine wQ ?_ | refine wF ?_ | refine wG ?_ | refine wT ?_ | refine wM ?_ | refine wS ?_ | refine wP ?_ | refine wJ ?_ | refine wX ?_ | refine wY ?_))
          clear hF
          repeat refine evDone ?_
          try (show AW _ _ _ _ _)
          repeat refine AW.seq ?_
          refine AW.reg ?_
          have hF := And.intro (hn1) (And.intro (hne) (And.intro (hne') (hnl)))
          repeat (first | refine wD1 ?_ | refine wD2 ?_ | refine wE1 ?_ | refine wE2 ?_ | (refine wE3 ?_; intro _) | (refine wE4 ?_; intro _) | refine wN ?_ | ((with_reducible show evIs _ (_ :: _) _ _); first | refine wQ ?_ | refine wF ?_ | refine wG ?_ | refine wT ?_ | refine wM ?_ | refine wS ?_ | refine wP ?_ | refine wJ ?_ | refine wX ?_ | refine wY ?_))
          clear hF
          repeat refine evDone ?_
          try (show AW _ _ _ _ _)
          repeat refine AW.seq ?_
          refine AW.condF (by simp [hn1]) (by simp [hn1]) ?_
          refine AW.skip ?_
          show AW _ _ _ _ _
          refine AW.reg ?_
          have hw : IntKind.i64.wrap ((i : Int) + 1) = (i : Int) + 1 := i64_in _ ⟨by omega, by omega⟩
          have hF := hw
          repeat (first | refine wD1 ?_ | refine wD2 ?_ | refine wE1 ?_ | refine wE2 ?_ | (refine wE3 ?_; intro _) | (refine wE4 ?_; intro _) | refine wN ?_ | ((with_reducible show evIs _ (_ :: _) _ _); first | refine wQ ?_ | refine wF ?_ | refine wG ?_ | refine wT ?_ | refine wM ?_ | refine wS ?_ | refine wP ?_ | refine wJ ?_ | refine wX ?_ | refine wY ?_))
          clear hF
          repeat refine evDone ?_
          try (show AW _ _ _ _ _)
          refine ⟨(i + 1, n + 80, n + 23), ⟨by dsimp only; omega, by dsimp only; omega, by dsimp only; omega, by dsimp only; omega⟩, by dsimp only; omega, ?_⟩
          refine Fit.mk _ _ _ (by simp [hw, hne, hne', hrn, hso, newP, Patch.av, avs, conv2, newEmp, convs_refl, convs, conv]) (by simp [hw, hne, hne', hrn, hso, newP, Patch.av, avs, heapFit, newEmp, conv2s, conv2, convs_refl, convs, conv]) (by intro q hq; first | (simp at hq; done) | (simp at hq; omega) | (simp at hq; simp; omega))
        · have hF := And.intro (h0) (And.intro (hne) (And.intro (hne') (hnl)))
          repeat (first | refine wD1 ?_ | refine wD2 ?_ | refine wE1 ?_ | refine wE2 ?_ | (refine wE3 ?_; intro _) | (refine wE4 ?_; intro _) | refine wN ?_ | ((with_reducible show evIs _ (_ :: _) _ _); first | refine wQ ?_ | refine wF ?_ | refine wG ?_ | refine wT ?_ | refine wM ?_ | refine wS ?_ | refine wP ?_ | refine wJ ?_ | refine wX ?_ | refine wY ?_))
          clear hF
          repeat refine evDone ?_
          try (show AW _ _ _ _ _)
          repeat refine AW.seq ?_
          refine AW.condF (by simp [h0]) (by simp [h0]) ?_
          refine AW.skip ?_
          show AW _ _ _ _ _
          repeat refine AW.seq ?_
          refine AW.reg ?_
          by_cases h1 : en = -1
          · have hso := ofI_some hxx (ofP_r hk h0 h1)
            have hlo := ofI_len l i
            have hby : ((ofI l i).length + 1) * 112 ≤ 140737488355328 := by omega
            have hby2 : (ofI l i).length + 1 ≤ 9223372036854775807 := by omega
            have hF := And.intro (h1) (And.intro (hne) (And.intro (hne') (hnl)))
            repeat (first | refine wD1 ?_ | refine wD2 ?_ | refine wE1 ?_ | refine wE2 ?_ | (refine wE3 ?_; intro _) | (refine wE4 ?_; intro _) | refine wN ?_ | ((with_reducible show evIs _ (_ :: _) _ _); first | refine wQ ?_ | refine wF ?_ | refine wG ?_ | refine wT ?_ | refine wM ?_ | refine wS ?_ | refine wP ?_ | refine wJ ?_ | refine wX ?_ | refine wY ?_))
            clear hF
            repeat refine evDone ?_
            try (show AW _ _ _ _ _)
            repeat refine AW.seq ?_
            refine AW.condT (by simp [h1]) (by simp [h1]) ?_
            repeat refine AW.seq ?_
            refine AW.draw ?_
            have hF := And.intro (hne) (And.intro (hne') (hnl))
            repeat (first | refine wD1 ?_ | refine wD2 ?_ | refine wE1 ?_ | refine wE2 ?_ | (refine wE3 ?_; intro _) | (refine wE4 ?_; intro _) | refine wN ?_ | ((with_reducible show evIs _ (_ :: _) _ _); first | refine wQ ?_ | refine wF ?_ | refine wG ?_ | refine wT ?_ | refine wM ?_ | refine wS ?_ | refine wP ?_ | refine wJ ?_ | refine wX ?_ | refine wY ?_))
            clear hF
            repeat refine evDone ?_
            try (show AW _ _ _ _ _)
            have hF := And.intro (hcl) (And.intro (hcs) (And.intro (hne) (And.intro (hne') (hnl))))
            refine wC (hA := hc) ?_
            clear hF
            have hF := And.intro (hne) (And.intro (hne') (And.intro (hnl) (And.intro (hby) (hby2))))
            repeat (first | refine wD1 ?_ | refine wD2 ?_ | refine wE1 ?_ | refine wE2 ?_ | (refine wE3 ?_; intro _) | (refine wE4 ?_; intro _) | refine wN ?_ | ((with_reducible show evIs _ (_ :: _) _ _); first | refine wQ ?_ | refine wF ?_ | refine wG ?_ | refine wT ?_ | refine wM ?_ | refine wS ?_ | refine wP ?_ | refine wJ ?_ | refine wX ?_ | refine wY ?_))
            clear hF
            repeat refine evDone ?_
            try (show AW _ _ _ _ _)
            refine AW.reg ?_
            have hw : IntKind.i64.wrap ((i : Int) + 1) = (i : Int) + 1 := i64_in _ ⟨by omega, by omega⟩
            have hF := hw
            repeat (first | refine wD1 ?_ | refine wD2 ?_ | refine wE1 ?_ | refine wE2 ?_ | (refine wE3 ?_; intro _) | (refine wE4 ?_; intro _) | refine wN ?_ | ((with_reducible show evIs _ (_ :: _) _ _); first | refine wQ ?_ | refine wF ?_ | refine wG ?_ | refine wT ?_ | refine wM ?_ | refine wS ?_ | refine wP ?_ | refine wJ ?_ | refine wX ?_ | refine wY ?_))
            clear hF
            repeat refine evDone ?_
            try (show AW _ _ _ _ _)
            refine ⟨(i + 1, n + 80, n + 36), ⟨by dsimp only; omega, by dsimp only; omega, by dsimp only; omega, by dsimp only; omega⟩, by dsimp only; omega, ?_⟩
            refine Fit.mk _ _ _ (by simp [hw, hne, hne', hrn, hso, Patch.av, avs, conv2, newEmp, convs_refl, convs, conv]) (by simp [hw, hne, hne', hrn, hso, Patch.av, avs, heapFit, newEmp, conv2s, conv2, convs_refl, convs, conv]) (by intro q hq; first | (simp at hq; done) | (simp at hq; omega) | (simp at hq; simp; omega))
          · have hno := ofI_none hxx (ofP_n hk h0 h1)
            have hF := And.intro (h1) (And.intro (hne) (And.intro (hne') (hnl)))
            repeat (first | refine wD1 ?_ | refine wD2 ?_ | refine wE1 ?_ | refine wE2 ?_ | (refine wE3 ?_; intro _) | (refine wE4 ?_; intro _) | refine wN ?_ | ((with_reducible show evIs _ (_ :: _) _ _); first | refine wQ ?_ | refine wF ?_ | refine wG ?_ | refine wT ?_ | refine wM ?_ | refine wS ?_ | refine wP ?_ | refine wJ ?_ | refine wX ?_ | refine wY ?_))
            clear hF
            repeat refine evDone ?_
            try (show AW _ _ _ _ _)
            repeat refine AW.seq ?_
            refine AW.condF (by simp [h1]) (by simp [h1]) ?_
            refine AW.skip ?_
            show AW _ _ _ _ _
            refine AW.reg ?_
            have hw : IntKind.i64.wrap ((i : Int) + 1) = (i : Int) + 1 := i64_in _ ⟨by omega, by omega⟩
            have hF := hw
            repeat (first | refine wD1 ?_ | refine wD2 ?_ | refine wE1 ?_ | refine wE2 ?_ | (refine wE3 ?_; intro _) | (refine wE4 ?_; intro _) | refine wN ?_ | ((with_reducible show evIs _ (_ :: _) _ _); first | refine wQ ?_ | refine wF ?_ | refine wG ?_ | refine wT ?_ | refine wM ?_ | refine wS ?_ | refine wP ?_ | refine wJ ?_ | refine wX ?_ | refine wY ?_))
            clear hF
            repeat refine evDone ?_
            try (show AW _ _ _ _ _)
            refine ⟨(i + 1, n + 80, r), ⟨by dsimp only; omega, by dsimp only; omega, by dsimp only; omega, by dsimp only; omega⟩, by dsimp only; omega, ?_⟩
            refine Fit.mk _ _ _ (by simp [hw, hne, hne', hrn, hno, conv2, newEmp, convs_refl, convs, conv]) (by simp [hw, hne, hne', hrn, hno, heapFit, newEmp, conv2s, conv2, convs_refl, convs, conv]) (by intro q hq; first | (simp at hq; done) | (simp at hq; omega) | (simp at hq; simp; omega))
      · have hno := ofI_none hxx (ofP_k hk)
        have hF := hk
        repeat (first | refine wD1 ?_ | refine wD2 ?_ | refine wE1 ?_ | refine wE2 ?_ | (refine wE3 ?_; intro _) | (refine wE4 ?_; intro _) | refine wN ?_ | ((with_reducible show evIs _ (_ :: _) _ _); first | refine wQ ?_ | refine wF ?_ | refine wG ?_ | refine wT ?_ | refine wM ?_ | refine wS ?_ | refine wP ?_ | refine wJ ?_ | refine wX ?_ | refine wY ?_))
        clear hF
        repeat refine evDone ?_
        try (show AW _ _ _ _ _)
        repeat refine AW.seq ?_
        refine AW.condT (by simp [hk]) (by simp [hk]) ?_
        refine AW.exit ?_
        show AW _ _ _ _ _
        refine AW.reg ?_
        have hw : IntKind.i64.wrap ((i : Int) + 1) = (i : Int) + 1 := i64_in _ ⟨by omega, by omega⟩
        have hF := hw
        repeat (first | refine wD1 ?_ | refine wD2 ?_ | refine wE1 ?_ | refine wE2 ?_ | (refine wE3 ?_; intro _) | (refine wE4 ?_; intro _) | refine wN ?_ | ((with_reducible show evIs _ (_ :: _) _ _); first | refine wQ ?_ | refine wF ?_ | refine wG ?_ | refine wT ?_ | refine wM ?_ | refine wS ?_ | refine wP ?_ | refine wJ ?_ | refine wX ?_ | refine wY ?_))
        clear hF
        repeat refine evDone ?_
        try (show AW _ _ _ _ _)
        refine ⟨(i + 1, n + 80, r), ⟨by dsimp only; omega, by dsimp only; omega, by dsimp only; omega, by dsimp only; omega⟩, by dsimp only; omega, ?_⟩
        refine Fit.mk _ _ _ (by simp [hw, hne, hne', hrn, hno, conv2, newEmp, convs_refl, convs, conv]) (by simp [hw, hne, hne', hrn, hno, heapFit, newEmp, conv2s, conv2, convs_refl, convs, conv]) (by intro q hq; first | (simp at hq; done) | (simp at hq; omega) | (simp at hq; simp; omega))
    · have hlt2 : ¬ (i : Int) < l.length := by omega
      have hF := And.intro (hlt) (hlt2)
      repeat (first | refine wD1 ?_ | refine wD2 ?_ | refine wE1 ?_ | refine wE2 ?_ | (refine wE3 ?_; intro _) | (refine wE4 ?_; intro _) | refine wN ?_ | ((with_reducible show evIs _ (_ :: _) _ _); first | refine wQ ?_ | refine wF ?_ | refine wG ?_ | refine wT ?_ | refine wM ?_ | refine wS ?_ | refine wP ?_ | refine wJ ?_ | refine wX ?_ | refine wY ?_))
      clear hF
      repeat refine evDone ?_
      try (show AW _ _ _ _ _)
      repeat refine AW.seq ?_
      refine AW.condF (by simp []) (by simp []) ?_
      refine AW.exit ?_
      show AW _ _ _ _ _
      have hii : i = l.length := by omega
      subst hii
      have ht : ((l.filterMap ofP).map Patch.av).take (l.filterMap ofP).length = (l.filterMap ofP).map Patch.av := take_all (by simp)
      have hf := ofI_full l
      repeat refine AW.seq ?_
      refine AW.reg ?_
      have hF := And.intro (hne) (And.intro (hne') (hnl))
      repeat (first | refine wD1 ?_ | refine wD2 ?_ | refine wE1 ?_ | refine wE2 ?_ | (refine wE3 ?_; intro _) | (refine wE4 ?_; intro _) | refine wN ?_ | ((with_reducible show evIs _ (_ :: _) _ _); first | refine wQ ?_ | refine wF ?_ | refine wG ?_ | refine wT ?_ | refine wM ?_ | refine wS ?_ | refine wP ?_ | refine wJ ?_ | refine wX ?_ | refine wY ?_))
      clear hF
      repeat refine evDone ?_
      try (show AW _ _ _ _ _)
      refine AW.ret (retI rfl ?_)
      simp [hf, ht, a20_res, resOk, resP, resV, ARes.op, R2s, R2, R1s, R1, closeOk, closeV]
theorem f6 (l : List Event) (hok : ∀ e ∈ l, e.ok) (hl : l.length ≤ 9223372036854775807) : ACall Try.prog 6 [evs l] (· = .bool true) := by
  have hk0 : 0 ≤ l.length := by omega
  refine a6_of (by simp) ?_
  repeat refine AW.seq ?_
  refine AW.reg ?_
  have hF := True.intro
  repeat (first | refine wD1 ?_ | refine wD2 ?_ | refine wE1 ?_ | refine wE2 ?_ | (refine wE3 ?_; intro _) | (refine wE4 ?_; intro _) | refine wN ?_ | ((with_reducible show evIs _ (_ :: _) _ _); first | refine wQ ?_ | refine wF ?_ | refine wG ?_ | refine wT ?_ | refine wM ?_ | refine wS ?_ | refine wP ?_ | refine wJ ?_ | refine wX ?_ | refine wY ?_))
  clear hF
  repeat refine evDone ?_
  try (show AW _ _ _ _ _)
  repeat refine AW.seq ?_
  refine AW.reg ?_
  by_cases h60 : 60 < (l.length : Int)
  · have hF := h60
    repeat (first | refine wD1 ?_ | refine wD2 ?_ | refine wE1 ?_ | refine wE2 ?_ | (refine wE3 ?_; intro _) | (refine wE4 ?_; intro _) | refine wN ?_ | ((with_reducible show evIs _ (_ :: _) _ _); first | refine wQ ?_ | refine wF ?_ | refine wG ?_ | refine wT ?_ | refine wM ?_ | refine wS ?_ | refine wP ?_ | refine wJ ?_ | refine wX ?_ | refine wY ?_))
    clear hF
    repeat refine evDone ?_
    try (show AW _ _ _ _ _)
    repeat refine AW.seq ?_
    refine AW.condT (by simp [h60]) (by simp [h60]) ?_
    repeat refine AW.seq ?_
    refine AW.reg ?_
    have hF := True.intro
    repeat (first | refine wD1 ?_ | refine wD2 ?_ | refine wE1 ?_ | refine wE2 ?_ | (refine wE3 ?_; intro _) | (refine wE4 ?_; intro _) | refine wN ?_ | ((with_reducible show evIs _ (_ :: _) _ _); first | refine wQ ?_ | refine wF ?_ | refine wG ?_ | refine wT ?_ | refine wM ?_ | refine wS ?_ | refine wP ?_ | refine wJ ?_ | refine wX ?_ | refine wY ?_))
    clear hF
    repeat refine evDone ?_
    try (show AW _ _ _ _ _)
    have hF := True.intro
    refine wC (hA := works) ?_
    clear hF
    have hF := True.intro
    repeat (first | refine wD1 ?_ | refine wD2 ?_ | refine wE1 ?_ | refine wE2 ?_ | (refine wE3 ?_; intro _) | (refine wE4 ?_; intro _) | refine wN ?_ | ((with_reducible show evIs _ (_ :: _) _ _); first | refine wQ ?_ | refine wF ?_ | refine wG ?_ | refine wT ?_ | refine wM ?_ | refine wS ?_ | refine wP ?_ | refine wJ ?_ | refine wX ?_ | refine wY ?_))
    clear hF
    repeat refine evDone ?_
    try (show AW _ _ _ _ _)
    refine AW.ret (retI rfl ?_)
    simp [a6_res, resOk, resP, resV, ARes.op, R2s, R2, R1s, R1, closeOk, closeV]
  have hF := h60
  repeat (first | refine wD1 ?_ | refine wD2 ?_ | refine wE1 ?_ | refine wE2 ?_ | (refine wE3 ?_; intro _) | (refine wE4 ?_; intro _) | refine wN ?_ | ((with_reducible show evIs _ (_ :: _) _ _); first | refine wQ ?_ | refine wF ?_ | refine wG ?_ | refine wT ?_ | refine wM ?_ | refine wS ?_ | refine wP ?_ | refine wJ ?_ | refine wX ?_ | refine wY ?_))
  clear hF
  repeat refine evDone ?_
  try (show AW _ _ _ _ _)
  repeat refine AW.seq ?_
  refine AW.condF (by simp [h60]) (by simp [h60]) ?_
  refine AW.skip ?_
  show AW _ _ _ _ _
  repeat refine AW.seq ?_
  refine AW.reg ?_
  have hF := True.intro
  repeat (first | refine wD1 ?_ | refine wD2 ?_ | refine wE1 ?_ | refine wE2 ?_ | (refine wE3 ?_; intro _) | (refine wE4 ?_; intro _) | refine wN ?_ | ((with_reducible show evIs _ (_ :: _) _ _); first | refine wQ ?_ | refine wF ?_ | refine wG ?_ | refine wT ?_ | refine wM ?_ | refine wS ?_ | refine wP ?_ | refine wJ ?_ | refine wX ?_ | refine wY ?_))
  clear hF
  repeat refine evDone ?_
  try (show AW _ _ _ _ _)
  repeat refine AW.seq ?_
  refine AW.block ?_
  refine AW.loop (fun g : Nat × Nat => g.1 ≤ l.length ∧ 0 ≤ g.2) (fun g => mkS [(0, evs l), (9, evs l), (10, .int .i64 l.length), (11, .int .i64 g.1)] [] g.2) (fun g => l.length - g.1) (0, 10) ⟨by simp, by simp⟩ ?_ ?_
  · refine Fit.mk _ _ _ (by simp [hk0, conv2, newEmp, convs_refl, convs, conv]) (by simp [hk0, heapFit, newEmp, conv2s, conv2, convs_refl, convs, conv]) (by intro q hq; first | (simp at hq; done) | (simp at hq; omega) | (simp at hq; simp; omega))
  · rintro ⟨i, n⟩ ⟨hi, hn⟩
    dsimp only at hi hn ⊢
    have hnl : ∀ k, (n + k < n) = False := fun k => eq_false (by omega)

    repeat refine AW.seq ?_
    refine AW.reg ?_
    by_cases hlt : i < l.length
    · have hF := hlt
      repeat (first | refine wD1 ?_ | refine wD2 ?_ | refine wE1 ?_ | refine wE2 ?_ | (refine wE3 ?_; intro _) | (refine wE4 ?_; intro _) | refine wN ?_ | ((with_reducible show evIs _ (_ :: _) _ _); first | refine wQ ?_ | refine wF ?_ | refine wG ?_ | refine wT ?_ | refine wM ?_ | refine wS ?_ | refine wP ?_ | refine wJ ?_ | refine wX ?_ | refine wY ?_))
      clear hF
      repeat refine evDone ?_
      try (show AW _ _ _ _ _)
      repeat refine AW.seq ?_
      refine AW.condT (by simp []) (by simp []) ?_
      refine AW.skip ?_
      show AW _ _ _ _ _
      refine AW.seq (AW.block ?_)
      have hx : ∃ x, l[i]? = some x := ⟨_, List.getElem?_eq_getElem hlt⟩
      obtain ⟨x, hx⟩ := hx
      have he := elem_map (f := Event.av) hx
      have hxo := hok x (List.mem_of_getElem? hx)
      obtain ⟨e1, kind, e3, e4, e5, en, code, name, key, dk, dn, dt, di, ds, q, p1, p2, p3, p4, p5, p6, p7, p8, fs⟩ := x
      have h15 := f15 (.mk dk dn dt di ds) hxo
      simp only [Event.av] at he
      simp only [Val.av] at h15
      repeat refine AW.seq ?_
      refine AW.reg ?_
      have hF := And.intro (hlt) (And.intro (he) (hnl))
      repeat (first | refine wD1 ?_ | refine wD2 ?_ | refine wE1 ?_ | refine wE2 ?_ | (refine wE3 ?_; intro _) | (refine wE4 ?_; intro _) | refine wN ?_ | ((with_reducible show evIs _ (_ :: _) _ _); first | refine wQ ?_ | refine wF ?_ | refine wG ?_ | refine wT ?_ | refine wM ?_ | refine wS ?_ | refine wP ?_ | refine wJ ?_ | refine wX ?_ | refine wY ?_))
      clear hF
      repeat refine evDone ?_
      try (show AW _ _ _ _ _)
      repeat refine AW.seq ?_
      refine AW.reg ?_
      have hF := hnl
      repeat (first | refine wD1 ?_ | refine wD2 ?_ | refine wE1 ?_ | refine wE2 ?_ | (refine wE3 ?_; intro _) | (refine wE4 ?_; intro _) | refine wN ?_ | ((with_reducible show evIs _ (_ :: _) _ _); first | refine wQ ?_ | refine wF ?_ | refine wG ?_ | refine wT ?_ | refine wM ?_ | refine wS ?_ | refine wP ?_ | refine wJ ?_ | refine wX ?_ | refine wY ?_))
      clear hF
      repeat refine evDone ?_
      try (show AW _ _ _ _ _)
      have hF := True.intro
      refine wI (hA := h15) ?_
      clear hF
      intro b _
      by_cases h2 : 100 < b
      · have hF := And.intro (h2) (hnl)
        repeat (first | refine wD1 ?_ | refine wD2 ?_ | refine wE1 ?_ | refine wE2 ?_ | (refine wE3 ?_; intro _) | (refine wE4 ?_; intro _) | refine wN ?_ | ((with_reducible show evIs _ (_ :: _) _ _); first | refine wQ ?_ | refine wF ?_ | refine wG ?_ | refine wT ?_ | refine wM ?_ | refine wS ?_ | refine wP ?_ | refine wJ ?_ | refine wX ?_ | refine wY ?_))
        clear hF
        repeat refine evDone ?_
        try (show AW _ _ _ _ _)
        repeat refine AW.seq ?_
        refine AW.condT (by simp [h2]) (by simp [h2]) ?_
        repeat refine AW.seq ?_
        refine AW.reg ?_
        have hF := True.intro
        repeat (first | refine wD1 ?_ | refine wD2 ?_ | refine wE1 ?_ | refine wE2 ?_ | (refine wE3 ?_; intro _) | (refine wE4 ?_; intro _) | refine wN ?_ | ((with_reducible show evIs _ (_ :: _) _ _); first | refine wQ ?_ | refine wF ?_ | refine wG ?_ | refine wT ?_ | refine wM ?_ | refine wS ?_ | refine wP ?_ | refine wJ ?_ | refine wX ?_ | refine wY ?_))
        clear hF
        repeat refine evDone ?_
        try (show AW _ _ _ _ _)
        have hF := True.intro
        refine wC (hA := works) ?_
        clear hF
        have hF := True.intro
        repeat (first | refine wD1 ?_ | refine wD2 ?_ | refine wE1 ?_ | refine wE2 ?_ | (refine wE3 ?_; intro _) | (refine wE4 ?_; intro _) | refine wN ?_ | ((with_reducible show evIs _ (_ :: _) _ _); first | refine wQ ?_ | refine wF ?_ | refine wG ?_ | refine wT ?_ | refine wM ?_ | refine wS ?_ | refine wP ?_ | refine wJ ?_ | refine wX ?_ | refine wY ?_))
        clear hF
        repeat refine evDone ?_
        try (show AW _ _ _ _ _)
        refine AW.ret (retI rfl ?_)
        simp [a6_res, resOk, resP, resV, ARes.op, R2s, R2, R1s, R1, closeOk, closeV]
      · have hF := And.intro (h2) (hnl)
        repeat (first | refine wD1 ?_ | refine wD2 ?_ | refine wE1 ?_ | refine wE2 ?_ | (refine wE3 ?_; intro _) | (refine wE4 ?_; intro _) | refine wN ?_ | ((with_reducible show evIs _ (_ :: _) _ _); first | refine wQ ?_ | refine wF ?_ | refine wG ?_ | refine wT ?_ | refine wM ?_ | refine wS ?_ | refine wP ?_ | refine wJ ?_ | refine wX ?_ | refine wY ?_))
        clear hF
        repeat refine evDone ?_
        try (show AW _ _ _ _ _)
        repeat refine AW.seq ?_
        refine AW.condF (by simp [h2]) (by simp [h2]) ?_
        refine AW.skip ?_
        show AW _ _ _ _ _
        refine AW.reg ?_
        have hw : IntKind.i64.wrap ((i : Int) + 1) = (i : Int) + 1 := i64_in _ ⟨by omega, by omega⟩
        have hF := hw
        repeat (first | refine wD1 ?_ | refine wD2 ?_ | refine wE1 ?_ | refine wE2 ?_ | (refine wE3 ?_; intro _) | (refine wE4 ?_; intro _) | refine wN ?_ | ((with_reducible show evIs _ (_ :: _) _ _); first | refine wQ ?_ | refine wF ?_ | refine wG ?_ | refine wT ?_ | refine wM ?_ | refine wS ?_ | refine wP ?_ | refine wJ ?_ | refine wX ?_ | refine wY ?_))
        clear hF
        repeat refine evDone ?_
        try (show AW _ _ _ _ _)
        refine ⟨(i + 1, n + 60), ⟨by dsimp only; omega, by dsimp only; omega⟩, by dsimp only; omega, ?_⟩
        refine Fit.mk _ _ _ (by simp [hw, conv2, newEmp, convs_refl, convs, conv]) (by simp [hw, heapFit, newEmp, conv2s, conv2, convs_refl, convs, conv]) (by intro q hq; first | (simp at hq; done) | (simp at hq; omega) | (simp at hq; simp; omega))
    · have hlt2 : ¬ (i : Int) < l.length := by omega
      have hF := And.intro (hlt) (hlt2)
      repeat (first | refine wD1 ?_ | refine wD2 ?_ | refine wE1 ?_ | refine wE2 ?_ | (refine wE3 ?_; intro _) | (refine wE4 ?_; intro _) | refine wN ?_ | ((with_reducible show evIs _ (_ :: _) _ _); first | refine wQ ?_ | refine wF ?_ | refine wG ?_ | refine wT ?_ | refine wM ?_ | refine wS ?_ | refine wP ?_ | refine wJ ?_ | refine wX ?_ | refine wY ?_))
      clear hF
      repeat refine evDone ?_
      try (show AW _ _ _ _ _)
      repeat refine AW.seq ?_
      refine AW.condF (by simp []) (by simp []) ?_
      refine AW.exit ?_
      show AW _ _ _ _ _
      have h19 := f19 l hok (by omega)
      have h20 := f20 l hok (by omega)
      have hpc := pats_cl (l.filterMap ofP)
      have h14 := f14 (l.filterMap ofP) (of_ok hok) (Nat.le_trans (List.length_filterMap_le _ _) hl)
      repeat refine AW.seq ?_
      refine AW.reg ?_
      have hF := True.intro
      repeat (first | refine wD1 ?_ | refine wD2 ?_ | refine wE1 ?_ | refine wE2 ?_ | (refine wE3 ?_; intro _) | (refine wE4 ?_; intro _) | refine wN ?_ | ((with_reducible show evIs _ (_ :: _) _ _); first | refine wQ ?_ | refine wF ?_ | refine wG ?_ | refine wT ?_ | refine wM ?_ | refine wS ?_ | refine wP ?_ | refine wJ ?_ | refine wX ?_ | refine wY ?_))
      clear hF
      repeat refine evDone ?_
      try (show AW _ _ _ _ _)
      have hF := hpc
      refine wC (hA := h19) ?_
      clear hF
      have hF := True.intro
      repeat (first | refine wD1 ?_ | refine wD2 ?_ | refine wE1 ?_ | refine wE2 ?_ | (refine wE3 ?_; intro _) | (refine wE4 ?_; intro _) | refine wN ?_ | ((with_reducible show evIs _ (_ :: _) _ _); first | refine wQ ?_ | refine wF ?_ | refine wG ?_ | refine wT ?_ | refine wM ?_ | refine wS ?_ | refine wP ?_ | refine wJ ?_ | refine wX ?_ | refine wY ?_))
      clear hF
      repeat refine evDone ?_
      try (show AW _ _ _ _ _)
      have hF := hpc
      refine wC (hA := h20) ?_
      clear hF
      have hF := True.intro
      repeat (first | refine wD1 ?_ | refine wD2 ?_ | refine wE1 ?_ | refine wE2 ?_ | (refine wE3 ?_; intro _) | (refine wE4 ?_; intro _) | refine wN ?_ | ((with_reducible show evIs _ (_ :: _) _ _); first | refine wQ ?_ | refine wF ?_ | refine wG ?_ | refine wT ?_ | refine wM ?_ | refine wS ?_ | refine wP ?_ | refine wJ ?_ | refine wX ?_ | refine wY ?_))
      clear hF
      repeat refine evDone ?_
      try (show AW _ _ _ _ _)
      have hF := True.intro
      refine wC (hA := h14) ?_
      clear hF
      have hF := True.intro
      repeat (first | refine wD1 ?_ | refine wD2 ?_ | refine wE1 ?_ | refine wE2 ?_ | (refine wE3 ?_; intro _) | (refine wE4 ?_; intro _) | refine wN ?_ | ((with_reducible show evIs _ (_ :: _) _ _); first | refine wQ ?_ | refine wF ?_ | refine wG ?_ | refine wT ?_ | refine wM ?_ | refine wS ?_ | refine wP ?_ | refine wJ ?_ | refine wX ?_ | refine wY ?_))
      clear hF
      repeat refine evDone ?_
      try (show AW _ _ _ _ _)
      have hF := True.intro
      refine wC (hA := works) ?_
      clear hF
      have hF := True.intro
      repeat (first | refine wD1 ?_ | refine wD2 ?_ | refine wE1 ?_ | refine wE2 ?_ | (refine wE3 ?_; intro _) | (refine wE4 ?_; intro _) | refine wN ?_ | ((with_reducible show evIs _ (_ :: _) _ _); first | refine wQ ?_ | refine wF ?_ | refine wG ?_ | refine wT ?_ | refine wM ?_ | refine wS ?_ | refine wP ?_ | refine wJ ?_ | refine wX ?_ | refine wY ?_))
      clear hF
      repeat refine evDone ?_
      try (show AW _ _ _ _ _)
      refine AW.ret (retI rfl ?_)
      simp [a6_res, resOk, resP, resV, ARes.op, R2s, R2, R1s, R1, closeOk, closeV]
theorem tell_event {H : Type} {enc : TypeId × Value → H} {w : World} {n : Nat} {cs : List Value} {x : DataW H × List MemPlace} (h : DataW.trod enc Try.prog w 0 (fun _ => true) true n 46 cs = some x) :
    ∃ e : Event, Tell w (cellsOf e.av) cs ∧ (cellsOf e.av).length = Try.prog.cellsOf 46 ∧ (WOk Try.prog 46 x.1 → e.ok) := by
  obtain ⟨css, ds, m, rfl, hx, rfl, he⟩ := tell_fields Try.underlying46 (by kernel_rfl) h
  obtain ⟨c0, css, d0, ds, rfl, rfl, ⟨p0, h0⟩, he⟩ := each_cons he
  obtain ⟨c1, css, d1, ds, rfl, rfl, ⟨p1, h1⟩, he⟩ := each_cons he
  obtain ⟨c2, css, d2, ds, rfl, rfl, ⟨p2, h2⟩, he⟩ := each_cons he
  obtain ⟨c3, css, d3, ds, rfl, rfl, ⟨p3, h3⟩, he⟩ := each_cons he
  obtain ⟨c4, css, d4, ds, rfl, rfl, ⟨p4, h4⟩, he⟩ := each_cons he
  obtain ⟨c5, css, d5, ds, rfl, rfl, ⟨p5, h5⟩, he⟩ := each_cons he
  obtain ⟨c6, css, d6, ds, rfl, rfl, ⟨p6, h6⟩, he⟩ := each_cons he
  obtain ⟨c7, css, d7, ds, rfl, rfl, ⟨p7, h7⟩, he⟩ := each_cons he
  obtain ⟨c8, css, d8, ds, rfl, rfl, ⟨p8, h8⟩, he⟩ := each_cons he
  obtain ⟨c9, css, d9, ds, rfl, rfl, ⟨p9, h9⟩, he⟩ := each_cons he
  obtain ⟨c10, css, d10, ds, rfl, rfl, ⟨p10, h10⟩, he⟩ := each_cons he
  obtain ⟨rfl, rfl⟩ := each_nil he
  obtain ⟨i0, t0, _, _⟩ := tell_int Try.underlying3 h0
  obtain ⟨i1, t1, _, _⟩ := tell_int Try.underlying3 h1
  obtain ⟨i2, t2, _, _⟩ := tell_int Try.underlying3 h2
  obtain ⟨i3, t3, _, _⟩ := tell_int Try.underlying3 h3
  obtain ⟨i4, t4, _, _⟩ := tell_int Try.underlying3 h4
  obtain ⟨i5, t5, _, _⟩ := tell_int Try.underlying3 h5
  obtain ⟨i6, t6, _, _⟩ := tell_int Try.underlying3 h6
  obtain ⟨i7, t7, _, _⟩ := tell_str Try.underlying9 h7
  obtain ⟨i8, t8, _, _⟩ := tell_str Try.underlying9 h8
  obtain ⟨⟨v0, v1, v2, v3, v4⟩, t9, _, e9⟩ := tell_val _ _ _ h9
  obtain ⟨css', ds', m', hm', hx', rfl, he'⟩ := tell_fields Try.underlying44 (by kernel_rfl) h10
  obtain ⟨f0, css', g0, ds', rfl, rfl, ⟨q0, k0⟩, he'⟩ := each_cons he'
  obtain ⟨f1, css', g1, ds', rfl, rfl, ⟨q1, k1⟩, he'⟩ := each_cons he'
  obtain ⟨f2, css', g2, ds', rfl, rfl, ⟨q2, k2⟩, he'⟩ := each_cons he'
  obtain ⟨f3, css', g3, ds', rfl, rfl, ⟨q3, k3⟩, he'⟩ := each_cons he'
  obtain ⟨f4, css', g4, ds', rfl, rfl, ⟨q4, k4⟩, he'⟩ := each_cons he'
  obtain ⟨f5, css', g5, ds', rfl, rfl, ⟨q5, k5⟩, he'⟩ := each_cons he'
  obtain ⟨f6, css', g6, ds', rfl, rfl, ⟨q6, k6⟩, he'⟩ := each_cons he'
  obtain ⟨f7, css', g7, ds', rfl, rfl, ⟨q7, k7⟩, he'⟩ := each_cons he'
  obtain ⟨f8, css', g8, ds', rfl, rfl, ⟨q8, k8⟩, he'⟩ := each_cons he'
  obtain ⟨f9, css', g9, ds', rfl, rfl, ⟨q9, k9⟩, he'⟩ := each_cons he'
  obtain ⟨rfl, rfl⟩ := each_nil he'
  obtain ⟨j0, s0, _, _⟩ := tell_str Try.underlying9 k0
  obtain ⟨j1, s1, _, _⟩ := tell_int Try.underlying3 k1
  obtain ⟨j2, s2, _, _⟩ := tell_int Try.underlying3 k2
  obtain ⟨j3, s3, _, _⟩ := tell_int Try.underlying3 k3
  obtain ⟨j4, s4, _, _⟩ := tell_int Try.underlying3 k4
  obtain ⟨j5, s5, _, _⟩ := tell_int Try.underlying3 k5
  obtain ⟨j6, s6, _, _⟩ := tell_int Try.underlying3 k6
  obtain ⟨j7, s7, _, _⟩ := tell_int Try.underlying3 k7
  obtain ⟨j8, s8, _, _⟩ := tell_int Try.underlying3 k8
  obtain ⟨j9, s9, _, _⟩ := tell_slice Try.underlying33 (by decide +kernel) AV.str (fun _ _ => True) k9 (fun m _ cs x hx => by
    obtain ⟨s, a, _⟩ := tell_str Try.underlying9 hx
    exact ⟨s, a, by kernel_rfl, trivial⟩)
  refine ⟨⟨i0, i1, i2, i3, i4, i5, i6, i7, i8, v0, v1, v2, v3, v4, j0, j1, j2, j3, j4, j5, j6, j7, j8, j9⟩, ?_, by simp; kernel_rfl, ?_⟩
  · have := t0.app (t1.app (t2.app (t3.app (t4.app (t5.app (t6.app (t7.app (t8.app (t9.app (s0.app (s1.app (s2.app (s3.app (s4.app (s5.app (s6.app (s7.app (s8.app s9))))))))))))))))))
    simpa [Event.av, Val.av] using this
  · intro hw
    rw [hx] at hw
    exact e9 fun k hk => hw k (by simp [DataW.weights, Try.underlying46, DataW.weightsEach, hk])
theorem tell_events {H : Type} {enc : TypeId × Value → H} {w : World} {v : Value} {d : DataW H} {p : List MemPlace} (h : DataW.Trod enc Try.prog w 0 (fun _ => true) true 42 v d p) (hw : WOk Try.prog 42 d) : ∃ l : List Event, Tell w [evs l] v.cells.toList ∧ (∀ e ∈ l, e.ok) ∧ l.length ≤ 9223372036854775807 := by
  obtain ⟨n, h⟩ := h
  obtain ⟨l, a, hl, e⟩ := tell_slice Try.underlying42 (by decide +kernel) Event.av (fun v d => WOk Try.prog 46 d → v.ok) h (fun m _ cs x hx => tell_event hx)
  have a3 := slOf_ok Try.underlying42 e hw
  exact ⟨l, a, a3.2, by simpa [maxLen] using hl⟩
end Go.Proofs.Ytlnhmlffhjmmiaa
