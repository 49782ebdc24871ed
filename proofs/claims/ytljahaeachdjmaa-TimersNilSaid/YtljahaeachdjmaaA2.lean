/- append, on the abstract side. -/
import Derived.Test.YtljahaeachdjmaaA1

set_option linter.unusedSimpArgs false
set_option linter.unusedVariables false
namespace Go.Amb
open Go Go.RowKit

section
variable {E : Env} {st : St} {a : Act} {w w' : World} {pl pl' : Pls} {fp : Nat → List Nat}

theorem usedE_live {h : Nat → Option Blk} {xs : List AV} (hok : ∀ x ∈ xs, ∀ c ∈ cellsOf x, closeOk h c) : ∀ q ∈ usedE xs, (h q).isSome = true := by
  intro q hq
  obtain ⟨c, hc, hq⟩ := List.mem_flatMap.1 hq
  obtain ⟨x, hx, hcx⟩ := List.mem_flatMap.1 hc
  have := hok x hx c hcx
  cases c <;> simp [usedV] at hq
  subst hq
  simp only [closeOk] at this
  cases hb : h q with
  | none => simp [hb] at this
  | some b => rfl

theorem vals_oneCell {O : Nat → Prop} {B : Nat} {pl : Pls} : ∀ {vs : List AV} {us : List Value} {f : List Nat}, Vals w O B pl vs us f → (∀ v ∈ vs, v.one = true) → ∀ u ∈ us, u.oneCell' = true
  | [], us, f, h, _ => by cases h; simp
  | v :: vs, us, f, h, h1 => by
    obtain ⟨u, us', f1, f2, rfl, rfl, h2, h3⟩ := h.uncons
    intro x hx
    rcases List.mem_cons.1 hx with rfl | hx
    · exact oneCell_of h2 (h1 v (by simp))
    · exact vals_oneCell h3 (fun y hy => h1 y (by simp [hy])) x hx

theorem flat_len {ys : List AV} {sz : Nat} {O : Nat → Prop} {B : Nat} {pl : Pls} {cs : List Value} {f : List Nat} (hv : Vals w O B pl (flat ys) cs f) (hu : ∀ x ∈ ys, (cellsOf x).length = sz) : cs.length = ys.length * sz := by
  rw [hv.length, flat_length hu]

/-- The new row, where a new block was made. -/
theorem app_grow (hR : RelW E st a w pl fp) {k sz : Nat} {S X : AV} {v : Value} (hus : st.us (st.nx + k) = false) (h0 : 0 < sz) {A1 A2 : Option Addr} (ho : NewsOk st w (Own E st fp) E.w0.heap.size fp (st.olds S) (St.oldsUsed S) A1 sz)
    (hn : NewsOk st w (Own E st fp) E.w0.heap.size fp (st.news X) (St.newsUsed X) A2 sz) (hlive : ∀ q ∈ St.oldsUsed S ++ St.newsUsed X, (st.heap q).isSome = true) (hnd : (St.oldsUsed S ++ St.newsUsed X).Nodup)
    (hrun : ∀ ocs ncs, (ocs.length = (st.olds S).length * sz ∧ (0 < (st.olds S).length → ∃ b p, A1 = some ⟨b, p, none⟩ ∧ At w b p ocs)) → (ncs.length = (st.news X).length * sz ∧ (0 < (st.news X).length → ∃ b p, A2 = some ⟨b, p, none⟩ ∧ At w b p ncs)) →
      ∃ cap ty zs, (st.olds S).length + (st.news X).length ≤ cap ∧ zs.length = (cap - ((st.olds S).length + (st.news X).length)) * sz ∧ w' = w.drew.alloc (.cells (ocs ++ ncs ++ zs).toArray ty) ∧ v = .slice (some ⟨w.heap.size, 0, none⟩) ((st.olds S).length + (st.news X).length) cap) :
    ∃ pl' fp', RelW E (appS st k sz S X) a w' pl' fp' ∧ Vals w' (Own E (appS st k sz S X) fp') E.w0.heap.size pl' [appV st k S X] [v] [] := by
  obtain ⟨⟨ocs, fo, vo, do_, mo, ao⟩, uo, oo⟩ := ho
  obtain ⟨⟨ncs, fn, vn, dn, mn, an⟩, un, on⟩ := hn
  obtain ⟨cap, ty, zs, hcap, hzs, rfl, rfl⟩ := hrun ocs ncs ⟨flat_len vo uo, ao⟩ ⟨flat_len vn un, an⟩
  have hlo := flat_len vo uo
  have hln := flat_len vn un
  have hB : Below w.heap.size w (w.drew.alloc (.cells (ocs ++ ncs ++ zs).toArray ty)) := (Below.refl _ _).drew.alloc (Nat.le_refl _) _
  obtain ⟨hnd1, hnd2, hnd3⟩ := List.nodup_append.1 hnd
  let p : Pl := ⟨some w.heap.size, 0, sz, cap⟩
  have hplr : pl (st.nx + k) = none := hR.unused _ hus
  have hdead : st.heap (st.nx + k) = none := by
    cases h : st.heap (st.nx + k) with
    | none => rfl
    | some x => have := hR.used _ (by rw [h]; rfl); rw [hus] at this; cases this
  have hfd : (fo ++ fn).Nodup := by
    rw [List.nodup_append]
    refine ⟨do_, dn, fun b hb b' hb' e => ?_⟩
    subst e
    obtain ⟨r, hr, hl, hbr⟩ := mo b hb
    obtain ⟨r', hr', hl', hbr'⟩ := mn b hb'
    exact hR.disj r r' b hl hl' (hnd3 r hr r' hr') hbr hbr'
  have hfm : ∀ b ∈ fo ++ fn, ∃ q ∈ St.oldsUsed S ++ St.newsUsed X, b ∈ fp q := by
    intro b hb
    rcases List.mem_append.1 hb with hb | hb
    · obtain ⟨r, hr, _, h⟩ := mo b hb; exact ⟨r, List.mem_append_left _ hr, h⟩
    · obtain ⟨r, hr, _, h⟩ := mn b hb; exact ⟨r, List.mem_append_right _ hr, h⟩
  have hlt : ∀ b ∈ fo ++ fn, b < w.heap.size := by
    intro b hb
    obtain ⟨q, hq, hbq⟩ := hfm b hb
    exact (hR.own q (hlive q hq) b hbq).1
  have hch := hR.change (w' := w.drew.alloc (.cells (ocs ++ ncs ++ zs).toArray ty)) (pl' := plAdd pl (st.nx + k) p) (St.oldsUsed S ++ St.newsUsed X) (st.nx + k) ⟨sz, false, st.olds S ++ st.news X⟩ (w.heap.size :: (fo ++ fn)) (uupd st.us (st.nx + k))
    (Same.of_below hB) (fun b hb _ => hB.block b hb) hlive (fun h => by rw [hdead] at h; cases h) (fun q hq => by simp [plAdd, hq]) (fun x hx => by rw [hplr] at hx; cases hx)
    (fun h => by have := hR.usnb _ h; rw [hus] at this; cases this) (by simp [uupd]) (fun q hq => by simp [uupd, hq])
    (fun b hb => by
      rcases List.mem_cons.1 hb with rfl | hb
      · exact ⟨by rw [alloc_size]; exact Nat.lt_succ_self _, .inl (Nat.le_refl _)⟩
      · exact ⟨by have := hlt b hb; rw [alloc_size]; exact Nat.lt_succ_of_lt this, .inr (hfm b hb)⟩)
    (List.nodup_cons.2 ⟨fun hb => Nat.lt_irrefl _ (hlt _ hb), hfd⟩)
    (fun hO => by
      have hmv : ∀ {ys : List AV} {cs : List Value} {f : List Nat}, Vals w (Own E st fp) E.w0.heap.size noPl ys cs f → Vals (w.drew.alloc (.cells (ocs ++ ncs ++ zs).toArray ty)) _ E.w0.heap.size noPl ys cs f :=
        fun hv => hv.move (fun b _ hl => hB.block b hl) hB.size hO (Nat.le_refl _) _ (fun _ _ h => h)
      have hat : At (w.drew.alloc (.cells (ocs ++ ncs ++ zs).toArray ty)) w.heap.size 0 (ocs ++ ncs ++ zs) := by simpa using at_new (w := w.drew) (c := (ocs ++ ncs ++ zs).toArray) (t := ty)
      refine .blk (b := w.heap.size) (j := 0) (cap := cap) (cs := ocs ++ ncs) (by simp [plAdd, p]) (row_new (w := w.drew) ?_) (by rw [alloc_size]; exact Nat.lt_succ_self _) h0 ?_ ?_ ?_ ?_ (by simpa using hat.take)
      · simp only [List.size_toArray, List.length_append, hlo, hln, hzs, ← Nat.add_mul]
        congr 1; omega
      · intro x hx
        rcases List.mem_append.1 hx with hx | hx
        · exact uo x hx
        · exact un x hx
      · intro x hx
        simp only [flat_append] at hx
        rcases List.mem_append.1 hx with hx | hx
        · exact oo x hx
        · exact on x hx
      · simpa using hcap
      · simp only [Bool.false_eq_true, if_false, flat_append]
        exact (hmv vo).append (hmv vn))
  refine ⟨_, _, hch.1, ?_⟩
  have := Vals.hdr (w := w.drew.alloc (.cells (ocs ++ ncs ++ zs).toArray ty)) (O := Own E (appS st k sz S X) (fpAdd fp (st.nx + k) (w.heap.size :: (fo ++ fn)))) (B := E.w0.heap.size) (pl := plAdd pl (st.nx + k) p) (r := st.nx + k) (off := 0) (len := (st.olds S).length + (st.news X).length)
    (b := w.heap.size) (j := 0) (sz := sz) (cap := cap) (A := some ⟨w.heap.size, 0, none⟩) (by simp [plAdd, p]) (by omega) (.inl (by simp)) .nil
  simpa [appV] using this

/-- Nothing is there and nothing comes. -/
theorem app_empty (hR : RelW E st a w pl fp) {k sz : Nat} {S X : AV} (hus : st.us (st.nx + k) = false) (h0 : 0 < sz) {A : Option Addr} (ho : st.olds S = []) (hn : st.news X = []) (hlive : ∀ q ∈ St.oldsUsed S ++ St.newsUsed X, (st.heap q).isSome = true) :
    ∃ pl' fp', RelW E (appS st k sz S X) a w pl' fp' ∧ Vals w (Own E (appS st k sz S X) fp') E.w0.heap.size pl' [appV st k S X] [.slice A 0 0] [] := by
  let p : Pl := ⟨none, 0, sz, 0⟩
  have hplr : pl (st.nx + k) = none := hR.unused _ hus
  have hdead : st.heap (st.nx + k) = none := by
    cases h : st.heap (st.nx + k) with
    | none => rfl
    | some x => have := hR.used _ (by rw [h]; rfl); rw [hus] at this; cases this
  have hch := hR.change (w' := w) (pl' := plAdd pl (st.nx + k) p) (St.oldsUsed S ++ St.newsUsed X) (st.nx + k) ⟨sz, false, st.olds S ++ st.news X⟩ [] (uupd st.us (st.nx + k))
    (Same.refl w) (fun b hb _ => rfl) hlive (fun h => by rw [hdead] at h; cases h) (fun q hq => by simp [plAdd, hq]) (fun x hx => by rw [hplr] at hx; cases hx)
    (fun h => by have := hR.usnb _ h; rw [hus] at this; cases this) (by simp [uupd]) (fun q hq => by simp [uupd, hq]) (by simp) (by simp)
    (fun hO => .emp (j := 0) (by simp [plAdd, p]) (by simp [ho, hn]) h0)
  refine ⟨_, _, hch.1, ?_⟩
  have := Vals.hdre (w := w) (O := Own E (appS st k sz S X) (fpAdd fp (st.nx + k) [])) (B := E.w0.heap.size) (pl := plAdd pl (st.nx + k) p) (r := st.nx + k) (j := 0) (sz := sz) (A := A) (vs := []) (us := []) (fp := []) (by simp [plAdd, p]) .nil
  simpa [appV, ho, hn] using this
end
end Go.Amb

set_option linter.unusedSimpArgs false
set_option linter.unusedVariables false
namespace Go.Amb
open Go Go.RowKit

section
variable {E : Env} {st : St} {a : Act} {w w' : World} {pl pl' : Pls} {fp : Nat → List Nat} {o : Oper} {k : Nat}

/-- What is appended to. -/
theorem olds_sound (hR : RelW E st a w pl fp) {S : AV} {u : Value} {sz m : Nat} (hv : Vals w (Own E st fp) E.w0.heap.size pl [S] [u] []) (hok : st.oldsOk sz m S) (hn : (St.oldsUsed S).Nodup) :
    ∃ A c, u = .slice A (st.olds S).length c ∧ NewsOk st w (Own E st fp) E.w0.heap.size fp (st.olds S) (St.oldsUsed S) A sz ∧ (∀ q ∈ St.oldsUsed S, (st.heap q).isSome = true) ∧
      ((c = (st.olds S).length ∧ (st.olds S = [] ∨ 0 < m)) ∨
       ∃ r b j cap, St.oldsUsed S = [r] ∧ c = cap ∧ b ∈ fp r ∧ RowAt w b ((j + cap) * sz) ∧ (A = some ⟨b, j * sz, none⟩ ∨ cap = 0) ∧ (st.olds S).length ≤ cap ∧
        ∃ cs f, Vals w (Own E st fp) E.w0.heap.size noPl (flat (st.olds S)) cs f ∧ (b :: f).Nodup ∧ (∀ x ∈ f, x ∈ fp r) ∧ At w b (j * sz) cs) := by
  cases S <;> first | exact hok.elim | skip
  · rename_i K xs
    cases K <;> first | exact hok.elim | skip
    obtain ⟨h1, h2⟩ := hok
    obtain ⟨A, h3, h4⟩ := ext_news hR hv h2 hn
    refine ⟨A, xs.length, by simpa [St.olds] using h3, h4, usedE_live (fun x hx => (h2 x hx).2), .inl ⟨by simp [St.olds], by simpa [St.olds] using h1⟩⟩
  · rename_i r off n
    obtain ⟨h1, h2, h3, h4⟩ := hok
    obtain ⟨blk, hb⟩ := Option.isSome_iff_exists.1 h1
    rw [blk_eq hb] at h2 h3 h4
    have holds : st.olds (.hdr r off n) = blk.es.drop off := by simp [St.olds, blk_eq hb]
    have hlen : (blk.es.drop off).length = n := by rw [List.length_drop]; omega
    have htake : (blk.es.drop off).take n = blk.es.drop off := List.take_of_length_le (by omega)
    rw [holds]
    have hlv : ∀ q ∈ St.oldsUsed (.hdr r off n), (st.heap q).isSome = true := by intro q hq; simp [St.oldsUsed] at hq; subst hq; exact h1
    obtain ⟨hz, ⟨j, h, he, -⟩ | ⟨b, j, cap, cs, fp1, h, hr, hl, hu, ho, hn', hc, ha, hfe⟩⟩ := (hR.roots r blk hb).inv
    · cases hv with
      | hdr h' hn hA t => rw [h] at h'; cases h'
      | hdre h' t =>
        have hnil : blk.es.drop 0 = [] := by rw [he]; rfl
        rw [hnil]
        exact ⟨_, 0, rfl, ⟨⟨[], [], .nil, by simp, by simp, by simp⟩, by simp, by simp [flat]⟩, hlv, .inl ⟨rfl, .inl rfl⟩⟩
    · cases hv with
      | hdre h' t => rw [h] at h'; cases h'
      | @hdr _ _ _ _ b' j' sz' cap' A _ _ _ h' hn'' hA t =>
        rw [h] at h'
        injection h' with h'
        injection h' with e1 e2 e3 e4
        injection e1 with e1
        subst e1 e2 e3 e4
        rw [h2] at hc
        simp only [Bool.false_eq_true, if_false] at hc
        obtain ⟨ds, g, v1, v2, v3⟩ := sub_row hu hc ha off n (by omega)
        rw [htake] at v1
        have hnd := hR.nodup r h1
        rw [hfe] at hnd
        have hgf : ∀ x ∈ g, x ∈ fp r := fun x hx => by rw [hfe]; exact List.mem_cons_of_mem _ (v3.subset hx)
        have hbg : (b :: g).Nodup := hnd.sublist (v3.cons_cons b)
        have hat : At w b ((j + off) * blk.sz) ds := by rw [Nat.add_mul]; exact v2
        refine ⟨A, cap - off, by rw [hlen], ⟨⟨ds, g, v1, (List.nodup_cons.1 hbg).2, fun x hx => ⟨r, by simp [St.oldsUsed], h1, hgf x hx⟩, fun hp => ⟨b, _, hA.resolve_right (by rw [hlen] at hp; omega), hat⟩⟩, ?_, ?_⟩, hlv, .inr ⟨r, b, j + off, cap - off, rfl, rfl, by rw [hfe]; simp, ?_, ?_, by rw [hlen]; omega, ds, g, v1, hbg, hgf, by rw [← h4]; exact hat⟩⟩
        · intro x hx
          rw [hu x (List.mem_of_mem_drop hx), h4]
        · intro x hx
          refine ho x ?_
          have e : blk.es = blk.es.take off ++ blk.es.drop off := by rw [List.take_append_drop]
          rw [e, flat_append]
          simp [hx]
        · rw [← h4]; exact hr.eq (by congr 1; omega)
        · rw [← h4]
          rcases hA with hA | hA
          · exact .inl hA
          · exact .inr (by omega)

/-- The new row, in the old block. -/
theorem app_room (hR : RelW E st a w pl fp) {sz : Nat} {S X : AV} (hus : st.us (st.nx + k) = false) (h0 : 0 < sz) {A : Option Addr} {r b j cap : Nat} (hu1 : St.oldsUsed S = [r]) (hbr : b ∈ fp r) (hrow : RowAt w b ((j + cap) * sz)) (hA : A = some ⟨b, j * sz, none⟩ ∨ cap = 0)
    (hroom : (st.olds S).length + (st.news X).length ≤ cap) {ocs : List Value} {fo : List Nat} (vo : Vals w (Own E st fp) E.w0.heap.size noPl (flat (st.olds S)) ocs fo) (hbf : (b :: fo).Nodup) (hfo : ∀ x ∈ fo, x ∈ fp r) (hao : At w b (j * sz) ocs)
    (uo : ∀ x ∈ st.olds S, (cellsOf x).length = sz) (oo : ∀ x ∈ flat (st.olds S), x.one = true)
    {ncs : List Value} {fn : List Nat} (vn : Vals w (Own E st fp) E.w0.heap.size noPl (flat (st.news X)) ncs fn) (dn : fn.Nodup) (mn : ∀ b ∈ fn, ∃ r ∈ St.newsUsed X, (st.heap r).isSome = true ∧ b ∈ fp r)
    (un : ∀ x ∈ st.news X, (cellsOf x).length = sz) (on : ∀ x ∈ flat (st.news X), x.one = true)
    (hlive : ∀ q ∈ St.oldsUsed S ++ St.newsUsed X, (st.heap q).isSome = true) (hnd : (St.oldsUsed S ++ St.newsUsed X).Nodup)
    (hw' : w' = w.setCells b (j * sz + (st.olds S).length * sz) ncs) :
    ∃ pl' fp', RelW E (appS st k sz S X) a w' pl' fp' ∧ Vals w' (Own E (appS st k sz S X) fp') E.w0.heap.size pl' [appV st k S X] [.slice A ((st.olds S).length + (st.news X).length) cap] [] := by
  have hlo := flat_len vo uo
  have hln := flat_len vn un
  obtain ⟨hnd1, hnd2, hnd3⟩ := List.nodup_append.1 hnd
  have hrl : (st.heap r).isSome = true := hlive r (by simp [hu1])
  have hbl : b < w.heap.size := (hR.own r hrl b hbr).1
  let p : Pl := ⟨some b, j, sz, cap⟩
  have hplr : pl (st.nx + k) = none := hR.unused _ hus
  have hdead : st.heap (st.nx + k) = none := by
    cases h : st.heap (st.nx + k) with
    | none => rfl
    | some x => have := hR.used _ (by rw [h]; rfl); rw [hus] at this; cases this
  have hbn : b ∉ fn := by
    intro hb
    obtain ⟨q, hq, hl, hbq⟩ := mn b hb
    have hne : r ≠ q := hnd3 r (by simp [hu1]) q hq
    exact hR.disj r q b hrl hl hne hbr hbq
  have hfd : (b :: (fo ++ fn)).Nodup := by
    obtain ⟨h1, h2⟩ := List.nodup_cons.1 hbf
    rw [List.nodup_cons, List.nodup_append]
    refine ⟨by simp [h1, hbn], h2, dn, fun x hx y hy e => ?_⟩
    subst e
    obtain ⟨q, hq, hl, hxq⟩ := mn x hy
    exact hR.disj r q x hrl hl (hnd3 r (by simp [hu1]) q hq) (hfo x hx) hxq
  have hsame := same_setCells (b := b) ncs (j * sz + (st.olds S).length * sz) w
  have hsz := size_setCells (b := b) ncs (j * sz + (st.olds S).length * sz) w
  have hbnd : (j * sz + (st.olds S).length * sz) + ncs.length ≤ (j + cap) * sz := by
    have h1 : ((st.olds S).length + (st.news X).length) * sz ≤ cap * sz := Nat.mul_le_mul_right _ hroom
    rw [Nat.add_mul] at h1
    rw [Nat.add_mul, hln]
    omega
  have hcells : ∀ i, i < ncs.length → (w.cell? ⟨b, j * sz + (st.olds S).length * sz + i, none⟩).isSome = true := fun i hi => (row_cell hrow _ (by omega)).1
  have hch := hR.change (w' := w') (pl' := plAdd pl (st.nx + k) p) (St.oldsUsed S ++ St.newsUsed X) (st.nx + k) ⟨sz, false, st.olds S ++ st.news X⟩ (b :: (fo ++ fn)) (uupd st.us (st.nx + k))
    (by subst hw'; exact ⟨hsame.1, hsame.2.1, hsame.2.2, by rw [hsz]; exact Nat.le_refl _⟩)
    (fun x hx hq => by
      subst hw'
      exact heap_setCells_other (fun e => by subst e; exact hq r (by simp [hu1]) hbr) _ _ _)
    hlive (fun h => by rw [hdead] at h; cases h) (fun q hq => by simp [plAdd, hq]) (fun x hx => by rw [hplr] at hx; cases hx)
    (fun h => by have := hR.usnb _ h; rw [hus] at this; cases this) (by simp [uupd]) (fun q hq => by simp [uupd, hq])
    (fun x hx => by
      subst hw'
      rw [hsz]
      rcases List.mem_cons.1 hx with rfl | hx
      · exact ⟨hbl, .inr ⟨r, by simp [hu1], hbr⟩⟩
      · rcases List.mem_append.1 hx with hx | hx
        · exact ⟨(hR.own r hrl x (hfo x hx)).1, .inr ⟨r, by simp [hu1], hfo x hx⟩⟩
        · obtain ⟨q, hq, hl, hxq⟩ := mn x hx
          exact ⟨(hR.own q hl x hxq).1, .inr ⟨q, List.mem_append_right _ hq, hxq⟩⟩)
    hfd
    (fun hO => by
      subst hw'
      have hnb : ∀ x, ¬ Own E st fp x → x ≠ b := fun x hx e => hx (.inr ⟨r, hrl, by subst e; exact hbr⟩)
      have mo : Vals (w.setCells b (j * sz + (st.olds S).length * sz) ncs) _ E.w0.heap.size noPl (flat (st.olds S)) ocs fo :=
        vo.move (fun x hx hl => heap_setCells_other (hx.elim (fun h e => by subst e; exact (List.nodup_cons.1 hbf).1 h) (hnb x)) _ _ _) (by rw [hsz]; exact Nat.le_refl _) hO (Nat.le_refl _) _ (fun _ _ h => h)
      have mn' : Vals (w.setCells b (j * sz + (st.olds S).length * sz) ncs) _ E.w0.heap.size noPl (flat (st.news X)) ncs fn :=
        vn.move (fun x hx hl => heap_setCells_other (hx.elim (fun h e => by subst e; exact hbn h) (hnb x)) _ _ _) (by rw [hsz]; exact Nat.le_refl _) hO (Nat.le_refl _) _ (fun _ _ h => h)
      refine .blk (b := b) (j := j) (cap := cap) (cs := ocs ++ ncs) (by simp [plAdd, p]) (rowAt_setCells _ _ _ hrow) (by rw [hsz]; exact hbl) h0 ?_ ?_ (by simpa using hroom) ?_ ?_
      · intro x hx
        rcases List.mem_append.1 hx with hx | hx
        · exact uo x hx
        · exact un x hx
      · intro x hx
        simp only [flat_append] at hx
        rcases List.mem_append.1 hx with hx | hx
        · exact oo x hx
        · exact on x hx
      · simp only [Bool.false_eq_true, if_false, flat_append]
        exact mo.append mn'
      · refine (hao.setCells_off (.inl (by rw [hlo]; exact Nat.le_refl _))).append ?_
        rw [hlo]
        exact At.setCells hcells)
  refine ⟨_, _, hch.1, ?_⟩
  have := Vals.hdr (w := w') (O := Own E (appS st k sz S X) (fpAdd fp (st.nx + k) (b :: (fo ++ fn)))) (B := E.w0.heap.size) (pl := plAdd pl (st.nx + k) p) (r := st.nx + k) (off := 0) (len := (st.olds S).length + (st.news X).length)
    (b := b) (j := j) (sz := sz) (cap := cap) (A := A) (by simp [plAdd, p]) (by omega) (by simpa using hA) .nil
  simpa [appV] using this

theorem zszIs_eq {P : Program} {t : TypeId} {n : Nat} (h : zszIs P t n = true) : ∃ i z, P.info? t = some i ∧ i.zero = some z ∧ z.cells.size = n := by
  unfold zszIs at h
  cases hi : P.info? t with
  | none => simp [hi] at h
  | some i =>
    cases hz : i.zero with
    | none => simp [hi, hz] at h
    | some z => simp [hi, hz] at h; exact ⟨i, z, rfl, hz, h⟩

theorem g_app {c : Call} {s x : Operand} {s' x' : AOpr} {t u e : TypeId} {sz bytes : Nat} (hR : RelW E st a w pl fp) (ho : o.op = .call c) (hc : c.callee = .builtin .append) (hargs : c.args.toList = [s, x]) (htys : c.argTypes.toList = [t, u])
    (hs : chkX s s' = true) (hx : chkX x x' = true) (he : elemIs E.P t = some e) (hz : szIs E.P e sz = true) (hb : bytesIs E.P e bytes = true) (hzz : zszIs E.P e sz = true) (h0 : 0 < sz) (hu : ∃ e', E.P.underlying u = some (.slice e'))
    (os : st.ok s') (ox : st.ok x') (hp : appOk st k sz bytes (st.val s') (st.val x')) :
    ∃ v w' pl' fp', (execOp a.eval o).run E.P w = .ok (.value v) w' ∧ RelW E (appS st k sz (st.val s') (st.val x')) a w' pl' fp' ∧ Vals w' (Own E (appS st k sz (st.val s') (st.val x')) fp') E.w0.heap.size pl' [appV st k (st.val s') (st.val x')] [v] [] := by
  obtain ⟨hus, hn, hol, hnd, hne, hby, hle⟩ := hp
  obtain ⟨hnd1, hnd2, hnd3⟩ := List.nodup_append.1 hnd
  obtain ⟨i, z, hi, hzero, hzs⟩ := zszIs_eq hzz
  have hisz : i.size = sz := by have := szIs_eq hz; rw [hi] at this; simpa using this
  have hiby : i.bytes = bytes := by simpa [bytesIs, hi] using hb
  obtain ⟨A2, c2, e2, n2⟩ := news_sound hR (opr_sound hR hx ox) hn hnd2
  obtain ⟨A1, c1, e1, n1, hlv1, hcase⟩ := olds_sound hR (opr_sound hR hs os) hol hnd1
  obtain ⟨cs, hex⟩ := execOp_builtin ho hc a
  have hargs' : c.args.map a.eval = #[a.eval s, a.eval x] := by
    have : c.args = #[s, x] := by apply Array.ext'; simpa using hargs
    rw [this]; simp
  have htys' : c.argTypes = #[t, u] := by apply Array.ext'; simpa using htys
  have hrun : ∀ v w', (Builtin.append_ #[t, u] o.type #[a.eval s, a.eval x]).run E.P w = .ok v w' → (execOp a.eval o).run E.P w = .ok (.value v) w' := by
    intro v w' h
    rw [hex, hargs', htys']
    simp [builtin, h]
  have hlive : ∀ q ∈ St.oldsUsed (st.val s') ++ St.newsUsed (st.val x'), (st.heap q).isSome = true := by
    intro q hq
    rcases List.mem_append.1 hq with hq | hq
    · exact hlv1 q hq
    · generalize st.val x' = X at hn hq
      cases X <;> first | (simp [St.newsUsed] at hq; done) | skip
      rename_i K xs
      cases K <;> first | (simp [St.newsUsed] at hq; done) | skip
      exact usedE_live (fun x hx => (hn x hx).2) q hq
  by_cases hg : c1 < (st.olds (st.val s')).length + (st.news (st.val x')).length
  · -- a new block
    obtain ⟨⟨ocs, fo, vo, do_, mo, ao⟩, uo, oo⟩ := n1
    obtain ⟨⟨ncs, fn, vn, dn, mn, an⟩, un, on⟩ := n2
    have hlo := flat_len vo uo
    have hln := flat_len vn un
    have hr := run_app_grow (P := E.P) (w := w) (t := t) (u := u) (ty := o.type) (e := e) (i := i) (z := z) (elemIs_eq he) hu hi hzero (A := A1) (A2 := A2) (n := (st.olds (st.val s')).length) (c := c1) (m := (st.news (st.val x')).length) (c2 := c2) (olds := ocs) (news := ncs)
      (fun w2 h2 => by rw [hisz]; exact run_firstCells hlo (fun hp => by obtain ⟨b, p, e, h⟩ := ao hp; exact ⟨b, p, e, h.move (by rw [h2])⟩))
      (fun w2 h2 => by rw [hisz]; exact run_firstCells hln (fun hp => by obtain ⟨b, p, e, h⟩ := an hp; exact ⟨b, p, e, h.move (by rw [h2])⟩))
      hg hle (by rw [hiby]; exact hby)
    obtain ⟨pl', fp', h1, h2⟩ := app_grow (k := k) hR hus h0 ⟨⟨ocs, fo, vo, do_, mo, ao⟩, uo, oo⟩ ⟨⟨ncs, fn, vn, dn, mn, an⟩, un, on⟩ hlive hnd (w' := w.drew.alloc (.cells (ocs.toArray ++ ncs.toArray ++ Builtin.zeroCells z.cells (grownCap w ((st.olds (st.val s')).length + (st.news (st.val x')).length) c1 e - ((st.olds (st.val s')).length + (st.news (st.val x')).length))) e))
      (v := .slice (some ⟨w.heap.size, 0, none⟩) ((st.olds (st.val s')).length + (st.news (st.val x')).length) (grownCap w ((st.olds (st.val s')).length + (st.news (st.val x')).length) c1 e))
      (by
        rintro ocs' ncs' ⟨ho1, ho2⟩ ⟨hn1, hn2⟩
        have eo : ocs' = ocs := by
          rcases Nat.eq_zero_or_pos (st.olds (st.val s')).length with h | h
          · rw [h, Nat.zero_mul] at ho1 hlo
            rw [List.length_eq_zero_iff.1 ho1, List.length_eq_zero_iff.1 hlo]
          · obtain ⟨b, p, q1, q2⟩ := ao h
            obtain ⟨b', p', q3, q4⟩ := ho2 h
            rw [q1] at q3
            injection q3 with q3
            injection q3 with q5 q6
            subst q5 q6
            apply List.ext_getElem (by omega)
            intro y y1 y2
            have z1 := q2 y _ (List.getElem?_eq_getElem y2)
            have z2 := q4 y _ (List.getElem?_eq_getElem y1)
            rw [z1] at z2
            injection z2 with z2
            exact z2.symm
        have en : ncs' = ncs := by
          rcases Nat.eq_zero_or_pos (st.news (st.val x')).length with h | h
          · rw [h, Nat.zero_mul] at hn1 hln
            rw [List.length_eq_zero_iff.1 hn1, List.length_eq_zero_iff.1 hln]
          · obtain ⟨b, p, q1, q2⟩ := an h
            obtain ⟨b', p', q3, q4⟩ := hn2 h
            rw [q1] at q3
            injection q3 with q3
            injection q3 with q5 q6
            subst q5 q6
            apply List.ext_getElem (by omega)
            intro y y1 y2
            have z1 := q2 y _ (List.getElem?_eq_getElem y2)
            have z2 := q4 y _ (List.getElem?_eq_getElem y1)
            rw [z1] at z2
            injection z2 with z2
            exact z2.symm
        subst eo en
        refine ⟨_, e, (Builtin.zeroCells z.cells (grownCap w ((st.olds (st.val s')).length + (st.news (st.val x')).length) c1 e - ((st.olds (st.val s')).length + (st.news (st.val x')).length))).toList, grownCap_ge _ _ _ _, ?_, ?_, rfl⟩
        · rw [Array.length_toList, size_zeroCells, hzs]
        · congr 2
          apply Array.ext'
          simp)
    exact ⟨_, _, pl', fp', hrun _ _ (by rw [e1, e2]; exact hr), h1, h2⟩
  · -- room
    rcases hcase with ⟨hc1, hm⟩ | ⟨r, b, j, cap, hu1, hcap, hbr, hrow, hA, hlo', ocs, fo, vo, hbf, hfo, hao⟩
    · have hn0 : (st.news (st.val x')).length = 0 := by omega
      have ho0 : st.olds (st.val s') = [] := hm.resolve_right (by omega)
      have hnn : st.news (st.val x') = [] := List.length_eq_zero_iff.1 hn0
      obtain ⟨pl', fp', h1, h2⟩ := app_empty (k := k) hR hus h0 (A := A1) ho0 hnn hlive
      have hr := run_app_none (P := E.P) (w := w) (t := t) (u := u) (ty := o.type) (e := e) (i := i) (elemIs_eq he) hu hi (A := A1) (A2 := A2) (n := 0) (c := 0) (c2 := c2) (Nat.le_refl _)
      refine ⟨_, _, pl', fp', hrun _ _ ?_, h1, h2⟩
      rw [e1, e2, hc1, ho0, hnn]
      exact hr
    · obtain ⟨⟨ncs, fn, vn, dn, mn, an⟩, un, on⟩ := n2
      have hln := flat_len vn un
      subst hcap
      obtain ⟨pl', fp', h1, h2⟩ := app_room (k := k) (A := A1) hR hus h0 hu1 hbr hrow hA (by omega) vo hbf hfo hao n1.uni n1.one vn dn mn un on hlive hnd rfl
      refine ⟨_, _, pl', fp', hrun _ _ ?_, h1, h2⟩
      rw [e1, e2]
      rcases Nat.eq_zero_or_pos (st.news (st.val x')).length with hm0 | hm0
      · have hnc : ncs = [] := by rw [hm0, Nat.zero_mul] at hln; exact List.length_eq_zero_iff.1 hln
        rw [hm0, hnc]
        exact run_app_none (P := E.P) (w := w) (t := t) (u := u) (ty := o.type) (e := e) (i := i) (elemIs_eq he) hu hi (by omega)
      · have hA' := hA.resolve_right (by omega)
        rw [hA']
        have hbnd : (j * sz + (st.olds (st.val s')).length * sz) + ncs.length ≤ (j + c1) * sz := by
          have h1 : ((st.olds (st.val s')).length + (st.news (st.val x')).length) * sz ≤ c1 * sz := Nat.mul_le_mul_right _ (by omega)
          rw [Nat.add_mul] at h1
          rw [Nat.add_mul, hln]
          omega
        have hr := run_app_room (P := E.P) (w := w) (t := t) (u := u) (ty := o.type) (e := e) (i := i) (elemIs_eq he) hu hi (b := b) (off := j * sz) (A2 := A2) (n := (st.olds (st.val s')).length) (c := c1) (m := (st.news (st.val x')).length) (c2 := c2) (news := ncs)
          (by rw [hisz]; exact run_firstCells hln an) (vals_oneCell vn on) (by omega) (fun y hy => by rw [hisz]; exact (row_cell hrow _ (by omega)).1) (fun y hy => by rw [hisz]; exact (row_cell hrow _ (by omega)).2)
        rw [hisz] at hr
        exact hr
end
end Go.Amb

set_option linter.unusedSimpArgs false
set_option linter.unusedVariables false
namespace Go.Amb
open Go Go.RowKit

theorem reCells_cells {e : AV} {cs : List AV} (h1 : (∃ ds, e = .agg ds) ∨ ∃ v, cs = [v] ∧ v.one = true) (he : e.one = true ∨ ∃ ds, e = .agg ds) : cellsOf (reCells e cs) = cs := by
  rcases h1 with ⟨ds, rfl⟩ | ⟨v, rfl, hv⟩
  · rfl
  · rcases he with he | ⟨ds, rfl⟩
    · have : reCells e [v] = v := by cases e <;> first | rfl | simp [AV.one] at he
      rw [this]
      cases v <;> first | rfl | simp [AV.one] at hv
    · rfl

section
variable {E : Env} {st : St} {a : Act} {w w' : World} {pl pl' : Pls} {fp : Nat → List Nat} {o : Oper} {k : Nat}

theorem store_core (hR : RelW E st a w pl fp) {r i off : Nat} {blk : Blk} {vs : List AV} {ucs : List Value} {fv used : List Nat} (hb : st.heap r = some blk) (hi : i < blk.es.length)
    (hle : off + vs.length ≤ (cellsOf (elemAt blk.es i)).length) (hv : Vals w (Own E st fp) E.w0.heap.size (if blk.box then pl else noPl) vs ucs fv) (h1 : ∀ c ∈ vs, c.one = true) (hnd : fv.Nodup)
    (hm : ∀ b ∈ fv, ∃ q ∈ used, (st.heap q).isSome = true ∧ b ∈ fp q) (hlive : ∀ q ∈ used, (st.heap q).isSome = true) (hr : r ∉ used) {p : AV} (hp : p = .ptr r i off) {u : Value} (hpv : Vals w (Own E st fp) E.w0.heap.size pl [p] [u] []) :
    ∃ b q, u = .pointer (some ⟨b, q, none⟩) ∧ (∀ j, j < ucs.length → (w.cell? ⟨b, q + j, none⟩).isSome = true ∧ w.frozen? ⟨b, q + j, none⟩ = false) ∧
      ∃ fp', RelW E { st with heap := hupd (hdel st.heap used) r (some { blk with es := blk.es.set i (putAt (elemAt blk.es i) off vs) }) } a (w.setCells b q ucs) pl fp' := by
  subst hp
  rw [elemAt_eq hi] at hle ⊢
  have hlr : (st.heap r).isSome = true := by rw [hb]; rfl
  have hucl := hv.length
  obtain ⟨hz, ⟨j, h, he, -⟩ | ⟨b, j, cap, cs, fp1, h, hrow, hl, hu, ho, hn', hc, ha, hfe⟩⟩ := (hR.roots r blk hb).inv
  · rw [he] at hi; simp at hi
  · cases hpv with
    | @ptr _ _ _ _ b' j' sz' cap' _ _ _ h' t =>
      rw [h] at h'
      injection h' with h'
      injection h' with e1 e2 e3 e4
      injection e1 with e1
      subst e1 e2 e3 e4
      -- the row, in three parts
      have hxi := hu _ (List.getElem_mem hi)
      have hsh : blk.es[i].one = true ∨ ∃ ds, blk.es[i] = .agg ds := elems_shape (O := Own E st fp) (B := 0) ho _ (List.getElem_mem hi)
      have eflat : flat blk.es = (flat (blk.es.take i) ++ (cellsOf blk.es[i]).take off) ++ (((cellsOf blk.es[i]).drop off).take vs.length ++ ((cellsOf blk.es[i]).drop (off + vs.length) ++ flat (blk.es.drop (i + 1)))) := by
        conv => lhs; rw [split_at blk.es i hi]
        rw [flat_append, flat_cons, List.append_assoc]
        congr 1
        rw [← List.append_assoc, ← List.append_assoc]
        congr 1
        rw [List.append_assoc, ← List.drop_drop, List.take_append_drop, List.take_append_drop]
      have eput : cellsOf (putAt blk.es[i] off vs) = (cellsOf blk.es[i]).take off ++ vs ++ (cellsOf blk.es[i]).drop (off + vs.length) := by
        unfold putAt
        refine reCells_cells ?_ hsh
        rcases hsh with hsh | hsh
        · right
          have ec : cellsOf blk.es[i] = [blk.es[i]] := by generalize blk.es[i] = x at hsh; cases x <;> simp_all [cellsOf, AV.one]
          rw [ec] at hle ⊢
          simp at hle
          rcases vs with _ | ⟨v, vs⟩
          · rcases off with _ | off
            · exact ⟨_, by simp, hsh⟩
            · have : off = 0 := by simp at hle; omega
              subst this
              exact ⟨_, by simp, hsh⟩
          · simp at hle
            have h0 : off = 0 := by omega
            have h00 : vs = [] := List.length_eq_zero_iff.1 (by omega)
            subst h0 h00
            exact ⟨v, by simp, h1 v (by simp)⟩
        · exact .inl hsh
      have eset : flat (blk.es.set i (putAt blk.es[i] off vs)) = (flat (blk.es.take i) ++ (cellsOf blk.es[i]).take off) ++ (vs ++ ((cellsOf blk.es[i]).drop (off + vs.length) ++ flat (blk.es.drop (i + 1)))) := by
        rw [List.set_eq_take_append_cons_drop, if_pos hi, flat_append, flat_cons, eput]
        simp only [List.append_assoc]
      rw [eflat] at hc ho
      obtain ⟨c1, c2, f1, f2, rfl, hf12, v1, v2⟩ := hc.unappend
      obtain ⟨c3, c4, f3, f4, rfl, rfl, v3, v4⟩ := v2.unappend
      subst hf12
      have hl1 : c1.length = i * blk.sz + off := by
        rw [v1.length, List.length_append, flat_length (fun x hx => hu x (List.mem_of_mem_take hx)), List.length_take, List.length_take, Nat.min_eq_left (by omega), Nat.min_eq_left (by omega)]
      have hl3 : c3.length = ucs.length := by rw [v3.length, List.length_take, List.length_drop, hucl, Nat.min_eq_left (by omega)]
      have hq : (j + i) * blk.sz + off = j * blk.sz + c1.length := by rw [hl1, Nat.add_mul]; omega
      have hnb := hR.nodup r hlr
      rw [hfe] at hnb
      have hbf : b ∉ f1 ++ (f3 ++ f4) := (List.nodup_cons.1 hnb).1
      have hnf := (List.nodup_cons.1 hnb).2
      have hbr : b ∈ fp r := by rw [hfe]; simp
      have hOb : ∀ x, ¬ Own E st fp x → x ≠ b := fun x hx e => hx (.inr ⟨r, hlr, by subst e; exact hbr⟩)
      have hfr : ∀ x ∈ f1 ++ (f3 ++ f4), x ∈ fp r := fun x hx => by rw [hfe]; exact List.mem_cons_of_mem _ hx
      have hdisj : ∀ x ∈ fv, x ∉ fp r := by
        intro x hx hxr
        obtain ⟨q, hq, hql, hxq⟩ := hm x hx
        exact hR.disj q r x hql hlr (fun e => hr (e ▸ hq)) hxq hxr
      have hcellok : ∀ y, y < ucs.length → (w.cell? ⟨b, (j + i) * blk.sz + off + y, none⟩).isSome = true ∧ w.frozen? ⟨b, (j + i) * blk.sz + off + y, none⟩ = false := by
        intro y hy
        refine row_cell hrow _ ?_
        have h1 : (i + 1) * blk.sz ≤ cap * blk.sz := Nat.mul_le_mul_right _ (by omega)
        rw [Nat.add_mul, Nat.one_mul] at h1
        have h2 : (j + i) * blk.sz = j * blk.sz + i * blk.sz := Nat.add_mul _ _ _
        have h3 : (j + cap) * blk.sz = j * blk.sz + cap * blk.sz := Nat.add_mul _ _ _
        omega
      have hsame := same_setCells (b := b) ucs ((j + i) * blk.sz + off) w
      have hsz := size_setCells (b := b) ucs ((j + i) * blk.sz + off) w
      refine ⟨b, _, rfl, hcellok, ?_⟩
      have hch := hR.change (w' := w.setCells b ((j + i) * blk.sz + off) ucs) (pl' := pl) (r :: used) r { blk with es := blk.es.set i (putAt blk.es[i] off vs) } (b :: (f1 ++ (fv ++ f4))) st.us
        ⟨hsame.1, hsame.2.1, hsame.2.2, by rw [hsz]; exact Nat.le_refl _⟩
        (fun x hx hq => heap_setCells_other (fun e => by subst e; exact hq r (by simp) hbr) _ _ _)
        (fun q hq => by rcases List.mem_cons.1 hq with rfl | hq; exact hlr; exact hlive q hq) (fun _ => by simp) (fun _ _ => rfl) (fun _ h => h) (fun _ => rfl) (hR.used r hlr) (fun _ _ => rfl)
        (fun x hx => by
          rw [hsz]
          rcases List.mem_cons.1 hx with rfl | hx
          · exact ⟨hl, .inr ⟨r, by simp, hbr⟩⟩
          · rcases List.mem_append.1 hx with hx | hx
            · have := hfr x (List.mem_append_left _ hx)
              exact ⟨(hR.own r hlr x this).1, .inr ⟨r, by simp, this⟩⟩
            · rcases List.mem_append.1 hx with hx | hx
              · obtain ⟨q, hq, hql, hxq⟩ := hm x hx
                exact ⟨(hR.own q hql x hxq).1, .inr ⟨q, by simp [hq], hxq⟩⟩
              · have := hfr x (List.mem_append_right _ (List.mem_append_right _ hx))
                exact ⟨(hR.own r hlr x this).1, .inr ⟨r, by simp, this⟩⟩)
        (by
          obtain ⟨n1, n2, n3⟩ := List.nodup_append.1 hnf
          obtain ⟨n4, n5, n6⟩ := List.nodup_append.1 n2
          rw [List.nodup_cons, List.nodup_append]
          refine ⟨?_, n1, ?_, ?_⟩
          · intro hx
            rcases List.mem_append.1 hx with hx | hx
            · exact hbf (List.mem_append_left _ hx)
            · rcases List.mem_append.1 hx with hx | hx
              · exact hdisj b hx hbr
              · exact hbf (List.mem_append_right _ (List.mem_append_right _ hx))
          · rw [List.nodup_append]
            refine ⟨hnd, n5, fun x hx y hy e => ?_⟩
            subst e
            exact hdisj x hx (hfr x (List.mem_append_right _ (List.mem_append_right _ hy)))
          · intro x hx y hy e
            subst e
            rcases List.mem_append.1 hy with hy | hy
            · exact hdisj x hy (hfr x (List.mem_append_left _ hx))
            · exact n3 x hx x (List.mem_append_right _ hy) rfl)
        (fun hO => by
          have mv : ∀ {pl0 : Pls} {ys : List AV} {zs : List Value} {f : List Nat}, Vals w (Own E st fp) E.w0.heap.size pl0 ys zs f → b ∉ f → Vals (w.setCells b ((j + i) * blk.sz + off) ucs) _ E.w0.heap.size pl0 ys zs f :=
            fun hv hbf' => hv.move (fun x hx hl => heap_setCells_other (hx.elim (fun hxf e => hbf' (by rw [← e]; exact hxf)) (hOb x)) _ _ _) (by rw [hsz]; exact Nat.le_refl _) hO (Nat.le_refl _) _ (fun _ _ h => h)
          refine .blk (b := b) (j := j) (cap := cap) (cs := c1 ++ (ucs ++ c4)) h (rowAt_setCells _ _ _ hrow) (by rw [hsz]; exact hl) hz ?_ ?_ (by simpa using hn') ?_ ?_
          · intro x hx
            rcases List.mem_or_eq_of_mem_set hx with hx | hx
            · exact hu x hx
            · subst hx
              rw [eput]
              simp only [List.length_append, List.length_take, List.length_drop]
              omega
          · intro x hx
            simp only [eset] at hx
            rcases List.mem_append.1 hx with hx | hx
            · exact ho x (List.mem_append_left _ hx)
            · rcases List.mem_append.1 hx with hx | hx
              · exact h1 x hx
              · exact ho x (List.mem_append_right _ (List.mem_append_right _ hx))
          · simp only [eset]
            exact (mv v1 (fun h => hbf (List.mem_append_left _ h))).append ((mv hv (fun h => hdisj b h hbr)).append (mv v4 (fun h => hbf (List.mem_append_right _ (List.mem_append_right _ h)))))
          · have a1 := ha.take
            have a2 := ha.drop
            have a4 := a2.drop
            rw [hq]
            refine (a1.setCells_off (.inl (Nat.le_refl _))).append ?_
            refine (At.setCells (fun y hy => by rw [← hq]; exact (hcellok y hy).1)).append ?_
            rw [hl3] at a4
            exact a4.setCells_off (.inr (Nat.le_refl _)))
      have heq : hupd (hdel st.heap (r :: used)) r (some { blk with es := blk.es.set i (putAt blk.es[i] off vs) }) = hupd (hdel st.heap used) r (some { blk with es := blk.es.set i (putAt blk.es[i] off vs) }) := by
        funext q
        simp only [hupd, hdel]
        by_cases hqr : q = r <;> simp [hqr]
      rw [heq] at hch
      exact ⟨_, hch.1⟩

theorem run_storeVar {P : Program} {t : TypeId} {n b q : Nat} {v : Value} (hz : szIs P t n = true) (hn : v.cells.toList.length = n) (h1 : ∀ u ∈ v.cells.toList, u.oneCell' = true) (w : World)
    (hc : ∀ j, j < n → (w.cell? ⟨b, q + j, none⟩).isSome = true ∧ w.frozen? ⟨b, q + j, none⟩ = false) : (Instr.storeAt t (.pointer (some ⟨b, q, none⟩)) v).run P w = .ok () (w.setCells b q v.cells.toList) := by
  have hst := run_storeCells_cells (P := P) b q v.cells.toList 0 w (fun j hj => by simpa using (hc j (by omega)).1) (fun j hj => by simpa using (hc j (by omega)).2) h1
  simp only [Nat.add_zero] at hst
  have hn' : v.cells.size = n := by simpa using hn
  simp [Instr.storeAt, Instr.sureAddr, storeVar, run_sizeOf' hz, hn', hst]

theorem g_store {t : TypeId} {n : Nat} {ag : Bool} {x y : Operand} {x' y' : AOpr} (hR : RelW E st a w pl fp) (ho : o.op = .store t x y) (hx : chkX x x' = true) (hy : chkX y y' = true) (hz : szIs E.P t n = true) (hg : aggIs E.P t ag = true)
    (ox : st.ok x') (oy : st.ok y') (hp : storeOk st n ag (st.val x') (st.val y')) :
    ∃ w' pl' fp', (execOp a.eval o).run E.P w = .ok .skip w' ∧ RelW E (storeS st (st.val x') (st.val y')) a w' pl' fp' := by
  have vx := opr_sound hR hx ox
  have vy := opr_sound hR hy oy
  revert hp
  generalize hA : st.val x' = A at *
  generalize st.val y' = Y at *
  intro hp
  cases A <;> first | exact hp.elim | skip
  rename_i r i off
  obtain ⟨h1, h2, h3, h4, h5, h6⟩ := hp
  obtain ⟨blk, hb⟩ := Option.isSome_iff_exists.1 h1
  rw [blk_eq hb] at h2 h3 h6
  have hsh : Y.one = true ∨ ∃ cs, Y = .agg cs := by cases Y <;> first | exact .inr ⟨_, rfl⟩ | exact .inl h5.2
  have hcells := cells_of vy hsh
  have hone : ∀ c ∈ cellsOf Y, c.one = true := by
    refine cells_one (hsh.imp id ?_)
    rintro ⟨cs, rfl⟩
    obtain ⟨us, _, _, h⟩ := inv_agg vy
    exact ⟨cs, rfl, h⟩
  have hul := hcells.length
  have hfin : ∀ b q w', a.eval x = .pointer (some ⟨b, q, none⟩) → (∀ j, j < (a.eval y).cells.toList.length → (w.cell? ⟨b, q + j, none⟩).isSome = true ∧ w.frozen? ⟨b, q + j, none⟩ = false) → w' = w.setCells b q (a.eval y).cells.toList →
      (execOp a.eval o).run E.P w = .ok .skip w' := by
    intro b q w' he hc hw
    subst hw
    have := run_storeVar (P := E.P) (t := t) (n := n) (b := b) (q := q) (v := a.eval y) hz (by rw [hul, h4]) (vals_oneCell hcells hone) w (fun j hj => hc j (by rw [hul, h4]; exact hj))
    simp [execOp, ho, he, this]
  cases hbox : blk.box with
  | true =>
    have := store_core (used := []) (fv := []) hR hb h2 (by rw [h4]; exact h3) (by rw [hbox]; exact hcells) hone (by simp) (by simp) (by simp) (by simp) rfl vx
    obtain ⟨b, q, he, hc, fp', hR'⟩ := this
    refine ⟨_, pl, fp', hfin b q _ he hc rfl, ?_⟩
    have hs : storeS st (.ptr r i off) Y = { st with heap := hupd (hdel st.heap []) r (some { blk with es := blk.es.set i (putAt (elemAt blk.es i) off (cellsOf Y)) }) } := by
      simp [storeS, blk_eq hb, hbox, hdel]
    rw [hs]; exact hR'
  | false =>
    rw [hbox] at h6
    simp only [Bool.false_eq_true, if_false] at h6
    obtain ⟨c1, c2, c3⟩ := h6
    have hus : usedE [Y] = (cellsOf Y).flatMap usedV := by simp [usedE, flat]
    rw [hus] at c2 c3
    obtain ⟨f, v, nd, m⟩ := closeL hR _ _ hcells c1 c2
    have hce : cellsOf (closeE st.heap Y) = (cellsOf Y).map (closeV st.heap) := closeE_cells hsh
    have := store_core (used := (cellsOf Y).flatMap usedV) (fv := f) (vs := cellsOf (closeE st.heap Y)) hR hb h2 (by rw [hce, List.length_map, h4]; exact h3) (by rw [hbox, hce]; exact v)
      (by rw [hce]; intro c hc; obtain ⟨d, hd, rfl⟩ := List.mem_map.1 hc; exact closeV_one (c1 d hd)) nd m (by
        have := usedE_live (h := st.heap) (xs := [Y]) (by simpa using c1)
        rwa [hus] at this) c3 rfl vx
    obtain ⟨b, q, he, hc, fp', hR'⟩ := this
    refine ⟨_, pl, fp', hfin b q _ he hc rfl, ?_⟩
    have hs : storeS st (.ptr r i off) Y = { st with heap := hupd (hdel st.heap ((cellsOf Y).flatMap usedV)) r (some { blk with es := blk.es.set i (putAt (elemAt blk.es i) off (cellsOf (closeE st.heap Y))) }) } := by
      simp [storeS, blk_eq hb, hbox, hus]
    rw [hs]; exact hR'
end
end Go.Amb

set_option linter.unusedSimpArgs false
set_option linter.unusedVariables false
namespace Go.Amb
open Go Go.RowKit

section
variable {E : Env} {st : St} {a : Act} {w w' : World} {pl pl' : Pls} {fp : Nat → List Nat} {o : Oper} {k : Nat}

/-- Elements p, p + 1, .. of a row are written. -/
theorem write_core (hR : RelW E st a w pl fp) {r p : Nat} {blk : Blk} {ys : List AV} {ucs : List Value} (hb : st.heap r = some blk) (hbox : blk.box = false) (hle : p + ys.length ≤ blk.es.length) (hpos : 0 < blk.es.length)
    (hv : Vals w (Own E st fp) E.w0.heap.size noPl (flat ys) ucs []) (h1 : ∀ c ∈ flat ys, c.one = true) (hu1 : ∀ y ∈ ys, (cellsOf y).length = blk.sz) :
    ∃ b j cap, pl r = some ⟨some b, j, blk.sz, cap⟩ ∧ blk.es.length ≤ cap ∧ (∀ y, y < ucs.length → (w.cell? ⟨b, (j + p) * blk.sz + y, none⟩).isSome = true ∧ w.frozen? ⟨b, (j + p) * blk.sz + y, none⟩ = false) ∧
      ∃ fp', RelW E { st with heap := hupd st.heap r (some { blk with es := blk.es.take p ++ ys ++ blk.es.drop (p + ys.length) }) } a (w.setCells b ((j + p) * blk.sz) ucs) pl fp' := by
  have hlr : (st.heap r).isSome = true := by rw [hb]; rfl
  have hucl : ucs.length = ys.length * blk.sz := flat_len hv hu1
  obtain ⟨hz, ⟨j, h, he, -⟩ | ⟨b, j, cap, cs, fp1, h, hrow, hl, hu, ho, hn', hc, ha, hfe⟩⟩ := (hR.roots r blk hb).inv
  · rw [he] at hpos; simp at hpos
  · rw [hbox] at hc
    simp only [Bool.false_eq_true, if_false] at hc
    have eflat : flat blk.es = flat (blk.es.take p) ++ (flat ((blk.es.drop p).take ys.length) ++ flat (blk.es.drop (p + ys.length))) := by
      rw [← List.drop_drop, ← flat_append, ← flat_append, List.take_append_drop, List.take_append_drop]
    have eset : flat (blk.es.take p ++ ys ++ blk.es.drop (p + ys.length)) = flat (blk.es.take p) ++ (flat ys ++ flat (blk.es.drop (p + ys.length))) := by
      rw [flat_append, flat_append, List.append_assoc]
    rw [eflat] at hc ho
    obtain ⟨c1, c2, f1, f2, rfl, hf12, v1, v2⟩ := hc.unappend
    obtain ⟨c3, c4, f3, f4, rfl, rfl, v3, v4⟩ := v2.unappend
    subst hf12
    have hl1 : c1.length = p * blk.sz := by
      rw [v1.length, flat_length (fun x hx => hu x (List.mem_of_mem_take hx)), List.length_take, Nat.min_eq_left (by omega)]
    have hl3 : c3.length = ucs.length := by
      rw [v3.length, flat_length (fun x hx => hu x (List.mem_of_mem_drop (List.mem_of_mem_take hx))), List.length_take, List.length_drop, Nat.min_eq_left (by omega), hucl]
    have hq : (j + p) * blk.sz = j * blk.sz + c1.length := by rw [hl1, Nat.add_mul]
    have hnb := hR.nodup r hlr
    rw [hfe] at hnb
    have hbf : b ∉ f1 ++ (f3 ++ f4) := (List.nodup_cons.1 hnb).1
    have hnf := (List.nodup_cons.1 hnb).2
    have hbr : b ∈ fp r := by rw [hfe]; simp
    have hOb : ∀ x, ¬ Own E st fp x → x ≠ b := fun x hx e => hx (.inr ⟨r, hlr, by subst e; exact hbr⟩)
    have hfr : ∀ x ∈ f1 ++ (f3 ++ f4), x ∈ fp r := fun x hx => by rw [hfe]; exact List.mem_cons_of_mem _ hx
    have hcellok : ∀ y, y < ucs.length → (w.cell? ⟨b, (j + p) * blk.sz + y, none⟩).isSome = true ∧ w.frozen? ⟨b, (j + p) * blk.sz + y, none⟩ = false := by
      intro y hy
      refine row_cell hrow _ ?_
      have h1 : (p + ys.length) * blk.sz ≤ cap * blk.sz := Nat.mul_le_mul_right _ (by omega)
      rw [Nat.add_mul] at h1
      have h2 : (j + p) * blk.sz = j * blk.sz + p * blk.sz := Nat.add_mul _ _ _
      have h3 : (j + cap) * blk.sz = j * blk.sz + cap * blk.sz := Nat.add_mul _ _ _
      omega
    have hsame := same_setCells (b := b) ucs ((j + p) * blk.sz) w
    have hsz := size_setCells (b := b) ucs ((j + p) * blk.sz) w
    refine ⟨b, j, cap, h, hn', hcellok, ?_⟩
    have hch := hR.change (w' := w.setCells b ((j + p) * blk.sz) ucs) (pl' := pl) [r] r { blk with es := blk.es.take p ++ ys ++ blk.es.drop (p + ys.length) } (b :: (f1 ++ f4)) st.us
      ⟨hsame.1, hsame.2.1, hsame.2.2, by rw [hsz]; exact Nat.le_refl _⟩
      (fun x hx hq => heap_setCells_other (fun e => by subst e; exact hq r (by simp) hbr) _ _ _)
      (fun q hq => by simp at hq; subst hq; exact hlr) (fun _ => by simp) (fun _ _ => rfl) (fun _ h => h) (fun _ => rfl) (hR.used r hlr) (fun _ _ => rfl)
      (fun x hx => by
        rw [hsz]
        have : x ∈ fp r := by
          rcases List.mem_cons.1 hx with rfl | hx
          · exact hbr
          · rcases List.mem_append.1 hx with hx | hx
            · exact hfr x (List.mem_append_left _ hx)
            · exact hfr x (List.mem_append_right _ (List.mem_append_right _ hx))
        exact ⟨(hR.own r hlr x this).1, .inr ⟨r, by simp, this⟩⟩)
      (by
        obtain ⟨n1, n2, n3⟩ := List.nodup_append.1 hnf
        obtain ⟨n4, n5, n6⟩ := List.nodup_append.1 n2
        rw [List.nodup_cons, List.nodup_append]
        refine ⟨?_, n1, n5, fun x hx y hy e => n3 x hx y (List.mem_append_right _ hy) e⟩
        intro hx
        rcases List.mem_append.1 hx with hx | hx
        · exact hbf (List.mem_append_left _ hx)
        · exact hbf (List.mem_append_right _ (List.mem_append_right _ hx)))
      (fun hO => by
        have mv : ∀ {ys' : List AV} {zs : List Value} {f : List Nat}, Vals w (Own E st fp) E.w0.heap.size noPl ys' zs f → b ∉ f → Vals (w.setCells b ((j + p) * blk.sz) ucs) _ E.w0.heap.size noPl ys' zs f :=
          fun hv hbf' => hv.move (fun x hx hl => heap_setCells_other (hx.elim (fun hxf e => hbf' (by rw [← e]; exact hxf)) (hOb x)) _ _ _) (by rw [hsz]; exact Nat.le_refl _) hO (Nat.le_refl _) _ (fun _ _ h => h)
        refine .blk (b := b) (j := j) (cap := cap) (cs := c1 ++ (ucs ++ c4)) h (rowAt_setCells _ _ _ hrow) (by rw [hsz]; exact hl) hz ?_ ?_ ?_ ?_ ?_
        · intro x hx
          rcases List.mem_append.1 hx with hx | hx
          · rcases List.mem_append.1 hx with hx | hx
            · exact hu x (List.mem_of_mem_take hx)
            · exact hu1 x hx
          · exact hu x (List.mem_of_mem_drop hx)
        · intro x hx
          simp only [eset] at hx
          rcases List.mem_append.1 hx with hx | hx
          · exact ho x (List.mem_append_left _ hx)
          · rcases List.mem_append.1 hx with hx | hx
            · exact h1 x hx
            · exact ho x (List.mem_append_right _ (List.mem_append_right _ hx))
        · simp only [List.length_append, List.length_take, List.length_drop]; omega
        · show Vals _ _ _ (if blk.box = true then pl else noPl) _ _ _
          rw [if_neg (by simp [hbox])]
          simp only [eset]
          have := (mv v1 (fun h => hbf (List.mem_append_left _ h))).append ((mv hv (by simp)).append (mv v4 (fun h => hbf (List.mem_append_right _ (List.mem_append_right _ h)))))
          simpa using this
        · have a1 := ha.take
          have a2 := ha.drop
          have a4 := a2.drop
          rw [hq]
          refine (a1.setCells_off (.inl (Nat.le_refl _))).append ?_
          refine (At.setCells (fun y hy => by rw [← hq]; exact (hcellok y hy).1)).append ?_
          rw [hl3] at a4
          exact a4.setCells_off (.inr (Nat.le_refl _)))
    have heq : hupd (hdel st.heap [r]) r (some { blk with es := blk.es.take p ++ ys ++ blk.es.drop (p + ys.length) }) = hupd st.heap r (some { blk with es := blk.es.take p ++ ys ++ blk.es.drop (p + ys.length) }) := by
      funext q
      simp only [hupd, hdel]
      by_cases hqr : q = r <;> simp [hqr]
    rw [heq] at hch
    exact ⟨_, hch.1⟩

/-! ### append in its place -/
def intoS (st : St) (S X : AV) : St :=
  match S with
  | .hdr r off n => { st with heap := hupd st.heap r (some { st.blk r with es := (st.blk r).es.take (off + n) ++ st.news X ++ (st.blk r).es.drop (off + n + (st.news X).length) }) }
  | _ => st
def intoV (st : St) (S X : AV) : AV :=
  match S with
  | .hdr r off n => .hdr r off (n + (st.news X).length)
  | _ => .undef
def intoOk (st : St) (sz : Nat) (S X : AV) : Prop :=
  match S with
  | .hdr r off n => (st.heap r).isSome = true ∧ (st.blk r).box = false ∧ (st.blk r).sz = sz ∧ 0 < (st.blk r).es.length ∧ off + n + (st.news X).length ≤ (st.blk r).es.length ∧ st.newsOk sz X ∧ St.newsUsed X = []
  | _ => False

theorem g_into {c : Call} {s x : Operand} {s' x' : AOpr} {t u e : TypeId} {sz : Nat} (hR : RelW E st a w pl fp) (ho : o.op = .call c) (hc : c.callee = .builtin .append) (hargs : c.args.toList = [s, x]) (htys : c.argTypes.toList = [t, u])
    (hs : chkX s s' = true) (hx : chkX x x' = true) (he : elemIs E.P t = some e) (hz : szIs E.P e sz = true) (hzz : zszIs E.P e sz = true) (hu : ∃ e', E.P.underlying u = some (.slice e'))
    (os : st.ok s') (ox : st.ok x') (hp : intoOk st sz (st.val s') (st.val x')) :
    ∃ v w' pl' fp', (execOp a.eval o).run E.P w = .ok (.value v) w' ∧ RelW E (intoS st (st.val s') (st.val x')) a w' pl' fp' ∧ Vals w' (Own E (intoS st (st.val s') (st.val x')) fp') E.w0.heap.size pl' [intoV st (st.val s') (st.val x')] [v] [] := by
  obtain ⟨i, z, hi, hzero, hzs⟩ := zszIs_eq hzz
  have hisz : i.size = sz := by have := szIs_eq hz; rw [hi] at this; simpa using this
  have vs := opr_sound hR hs os
  have vx := opr_sound hR hx ox
  obtain ⟨cs, hex⟩ := execOp_builtin ho hc a
  have hargs' : c.args.map a.eval = #[a.eval s, a.eval x] := by
    have : c.args = #[s, x] := by apply Array.ext'; simpa using hargs
    rw [this]; simp
  have htys' : c.argTypes = #[t, u] := by apply Array.ext'; simpa using htys
  have hrun : ∀ v w', (Builtin.append_ #[t, u] o.type #[a.eval s, a.eval x]).run E.P w = .ok v w' → (execOp a.eval o).run E.P w = .ok (.value v) w' := by
    intro v w' h
    rw [hex, hargs', htys']
    simp [builtin, h]
  revert hrun
  revert hp
  revert vs
  generalize st.val s' = S
  generalize a.eval s = sv
  intro vs hp hrun
  cases S with
  | hdr r off n =>
    obtain ⟨h1, h2, h3, h4, h5, h6, h7⟩ := hp
    obtain ⟨blk, hb⟩ := Option.isSome_iff_exists.1 h1
    simp only [intoS, intoV]
    rw [blk_eq hb] at h2 h3 h4 h5 ⊢
    subst h3
    obtain ⟨A2, c2, e2, ⟨⟨ncs, fn, vn, dn, mn, an⟩, un, on⟩⟩ := news_sound hR vx h6 (by rw [h7]; simp)
    have hfn : fn = [] := by
      cases fn with
      | nil => rfl
      | cons b fn => obtain ⟨q, hq, _⟩ := mn b (by simp); rw [h7] at hq; cases hq
    subst hfn
    have hln := flat_len vn un
    obtain ⟨b, j, cap, hpl, hcap, hcell, fp', hR'⟩ := write_core (p := off + n) (ys := st.news (st.val x')) (ucs := ncs) hR hb h2 h5 h4 vn on un
    cases vs with
    | hdre h tt => rw [hpl] at h; cases h
    | @hdr _ _ _ _ b' j' sz' cap' A _ _ _ h hn hA tt =>
      rw [hpl] at h
      injection h with h
      injection h with q1 q2 q3 q4
      injection q1 with q1
      subst q1 q2 q3 q4
      have hbs : (j + (off + n)) * blk.sz = (j + off) * blk.sz + n * blk.sz := by rw [← Nat.add_mul]; congr 1; omega
      by_cases hm : (st.news (st.val x')).length = 0
      · have hnn : st.news (st.val x') = [] := List.length_eq_zero_iff.1 hm
        have hn0 : ncs = [] := by rw [hm] at hln; simpa using hln
        have hr := run_app_none (P := E.P) (w := w) (t := t) (u := u) (ty := o.type) (e := e) (i := i) (elemIs_eq he) hu hi (A := A) (A2 := A2) (n := n) (c := cap - off) (c2 := c2) (by omega)
        refine ⟨_, w, pl, fp', hrun _ _ (by rw [e2, hm]; exact hr), ?_, ?_⟩
        · rw [hn0] at hR'; simpa [World.setCells] using hR'
        · have := Vals.hdr (w := w) (O := Own E { st with heap := hupd st.heap r (some { blk with es := blk.es.take (off + n) ++ st.news (st.val x') ++ blk.es.drop (off + n + (st.news (st.val x')).length) }) } fp') (B := E.w0.heap.size) (pl := pl) (r := r) (off := off) (len := n + (st.news (st.val x')).length) (A := A) hpl (by omega) hA .nil
          rw [hm] at this ⊢
          simpa using this
      · have hA' : A = some ⟨b, (j + off) * blk.sz, none⟩ := hA.resolve_right (by omega)
        subst hA'
        have hr := run_app_room (P := E.P) (w := w) (t := t) (u := u) (ty := o.type) (e := e) (i := i) (elemIs_eq he) hu hi (b := b) (off := (j + off) * blk.sz) (A2 := A2) (n := n) (c := cap - off) (m := (st.news (st.val x')).length) (c2 := c2) (news := ncs)
          (by rw [hisz]; exact run_firstCells hln an) (vals_oneCell vn on) (by omega)
          (fun y hy => by rw [hisz, ← hbs]; exact (hcell y hy).1) (fun y hy => by rw [hisz, ← hbs]; exact (hcell y hy).2)
        rw [hisz, ← hbs] at hr
        refine ⟨_, _, pl, fp', hrun _ _ (by rw [e2]; exact hr), hR', ?_⟩
        have := Vals.hdr (w := w.setCells b ((j + (off + n)) * blk.sz) ncs) (O := Own E { st with heap := hupd st.heap r (some { blk with es := blk.es.take (off + n) ++ st.news (st.val x') ++ blk.es.drop (off + n + (st.news (st.val x')).length) }) } fp') (B := E.w0.heap.size) (pl := pl) (r := r) (off := off) (len := n + (st.news (st.val x')).length)
          (A := some ⟨b, (j + off) * blk.sz, none⟩) hpl (by omega) (.inl rfl) .nil
        simpa using this
  | _ => exact hp.elim

/-! ### clear -/
def zeroE (h : Nat → Option Blk) (ag : Bool) (z : List CV) : AV := closeE h (asVar ag (z.map CV.av))
def clrS (st : St) (ag : Bool) (z : List CV) (S : AV) : St :=
  match S with
  | .hdr r off n => { st with heap := hupd st.heap r (some { st.blk r with es := (st.blk r).es.take off ++ List.replicate n (zeroE st.heap ag z) ++ (st.blk r).es.drop (off + n) }) }
  | _ => st
def clrOk (st : St) (sz : Nat) (ag : Bool) (z : List CV) (S : AV) : Prop :=
  match S with
  | .hdr r off n => (st.heap r).isSome = true ∧ (st.blk r).box = false ∧ (st.blk r).sz = sz ∧ 0 < (st.blk r).es.length ∧ off + n ≤ (st.blk r).es.length ∧ z.length = sz ∧ (ag = false → sz = 1) ∧ ∀ c ∈ z.map CV.av, closeOk st.heap c ∧ usedV c = []
  | _ => False

theorem vals_rep {O : Nat → Prop} {B : Nat} {vs : List AV} {us : List Value} (h : Vals w O B noPl vs us []) : ∀ n, Vals w O B noPl (List.replicate n vs).flatten (List.replicate n us).flatten []
  | 0 => by simpa using Vals.nil
  | n + 1 => by
    rw [List.replicate_succ, List.replicate_succ, List.flatten_cons, List.flatten_cons]
    simpa using h.append (vals_rep h n)

theorem g_clr {c : Call} {x : Operand} {x' : AOpr} {t e : TypeId} {sz : Nat} {ag : Bool} {z : List CV} (hR : RelW E st a w pl fp) (ho : o.op = .call c) (hc : c.callee = .builtin .clear) (hargs : c.args.toList = [x]) (htys : c.argTypes[0]? = some t)
    (hx : chkX x x' = true) (he : elemIs E.P t = some e) (hs : szIs E.P e sz = true) (hz : zeroIs E.P e ag z = true) (h0 : 0 < sz) (ox : st.ok x') (hp : clrOk st sz ag z (st.val x')) :
    ∃ w' fp', (execOp a.eval o).run E.P w = .ok (.value (.tuple #[])) w' ∧ RelW E (clrS st ag z (st.val x')) a w' pl fp' := by
  have vx := opr_sound hR hx ox
  obtain ⟨cs, hex⟩ := execOp_builtin ho hc a
  have hargs' : c.args.map a.eval = #[a.eval x] := by
    have : c.args = #[x] := by apply Array.ext'; simpa using hargs
    rw [this]; simp
  have hrun : ∀ w', (Builtin.clear_ c.argTypes o.type #[a.eval x]).run E.P w = .ok (.tuple #[]) w' → (execOp a.eval o).run E.P w = .ok (.value (.tuple #[])) w' := by
    intro w' h
    rw [hex, hargs']
    simp [builtin, h]
  revert hrun
  revert hp
  revert vx
  generalize st.val x' = S
  generalize a.eval x = xv
  intro vx hp hrun
  cases S with
  | hdr r off n =>
    obtain ⟨h1, h2, h3, h4, h5, hzl, hag, hzc⟩ := hp
    obtain ⟨blk, hb⟩ := Option.isSome_iff_exists.1 h1
    simp only [clrS]
    rw [blk_eq hb] at h2 h3 h4 h5 ⊢
    subst h3
    have hzero : ∃ zv, (zeroValue e).run E.P w = .ok zv w ∧ zv.cells.size = blk.sz ∧ Vals w (Own E st fp) E.w0.heap.size pl (z.map CV.av) zv.cells.toList [] ∧ ∀ c ∈ z.map CV.av, c.one = true := by
      cases ag with
      | true =>
        obtain ⟨i, cs, hi, hzero, hcs⟩ := zeroIs_true hz
        obtain ⟨h1, h2⟩ := chkCs_sound (w := w) (O := Own E st fp) (B := E.w0.heap.size) (pl := pl) _ _ hcs
        exact ⟨.agg cs, by simp [zeroValue, typeInfo, hi, hzero], by have := h1.length; simp at this; simp [Value.cells, this, hzl], by simpa [Value.cells] using h1, h2⟩
      | false =>
        obtain ⟨i, v, hi, hzero, hna, hcs⟩ := zeroIs_false hz
        obtain ⟨h1, h2⟩ := chkCs_sound (w := w) (O := Own E st fp) (B := E.w0.heap.size) (pl := pl) _ _ hcs
        have hvc : v.cells = #[v] := by cases v <;> first | rfl | exact absurd rfl (hna _)
        exact ⟨v, by simp [zeroValue, typeInfo, hi, hzero], by rw [hvc]; simp [hag rfl], by rw [hvc]; simpa using h1, h2⟩
    obtain ⟨zv, hzr, hzs, hzv, hz1⟩ := hzero
    have hze : cellsOf (asVar ag (z.map CV.av)) = z.map CV.av := asVar_cells hz1 (fun h => by simpa [hzl] using hag h)
    have hsh : (asVar ag (z.map CV.av)).one = true ∨ ∃ cs, asVar ag (z.map CV.av) = .agg cs := oneOrAgg (fun c hc => hz1 c (by rwa [hze] at hc))
    have hzE : cellsOf (zeroE st.heap ag z) = (z.map CV.av).map (closeV st.heap) := by
      unfold zeroE
      rw [closeE_cells hsh, hze]
    have hun : (z.map CV.av).flatMap usedV = [] := by
      rw [List.flatMap_eq_nil_iff]
      exact fun c hc => (hzc c hc).2
    obtain ⟨f, v1, nd, m⟩ := closeL hR _ _ hzv (fun c hc => (hzc c hc).1) (by rw [hun]; simp)
    have hf : f = [] := by
      cases f with
      | nil => rfl
      | cons b f => obtain ⟨q, hq, _⟩ := m b (by simp); rw [hun] at hq; cases hq
    subst hf
    have hfl : flat (List.replicate n (zeroE st.heap ag z)) = (List.replicate n ((z.map CV.av).map (closeV st.heap))).flatten := by
      rw [← hzE]
      unfold flat
      rw [List.flatMap_replicate]
    have hvz : Vals w (Own E st fp) E.w0.heap.size noPl (flat (List.replicate n (zeroE st.heap ag z))) (List.replicate n zv.cells.toList).flatten [] := by
      rw [hfl]; exact vals_rep v1 n
    have hone : ∀ c ∈ flat (List.replicate n (zeroE st.heap ag z)), c.one = true := by
      rw [hfl]
      intro c hc
      obtain ⟨l, hl, hcl⟩ := List.mem_flatten.1 hc
      obtain ⟨-, rfl⟩ := List.mem_replicate.1 hl
      obtain ⟨d, hd, rfl⟩ := List.mem_map.1 hcl
      exact closeV_one (hzc d hd).1
    have hlz : ∀ y ∈ List.replicate n (zeroE st.heap ag z), (cellsOf y).length = blk.sz := by
      intro y hy
      obtain ⟨-, rfl⟩ := List.mem_replicate.1 hy
      rw [hzE]; simp [hzl]
    obtain ⟨b, j, cap, hpl, hcap, hcell, fp', hR'⟩ := write_core (p := off) (ys := List.replicate n (zeroE st.heap ag z)) hR hb h2 (by simpa using h5) h4 hvz hone hlz
    rw [List.length_replicate] at hR'
    cases vx with
    | hdre h tt => rw [hpl] at h; cases h
    | @hdr _ _ _ _ b' j' sz' cap' A _ _ _ h hn hA tt =>
      rw [hpl] at h
      injection h with h
      injection h with q1 q2 q3 q4
      injection q1 with q1
      subst q1 q2 q3 q4
      by_cases hm : n = 0
      · subst hm
        refine ⟨w, fp', hrun _ ?_, ?_⟩
        · cases A <;> simp [Builtin.clear_, htys, run_underlying (elemIs_eq he)]
        · simpa [World.setCells] using hR'
      · have hA' : A = some ⟨b, (j + off) * blk.sz, none⟩ := hA.resolve_right (by omega)
        subst hA'
        have hz0 := zero_cells zv.cells blk.sz hzs h0 n
        have hzc' : (Builtin.zeroCells zv.cells n).toList = (List.replicate n zv.cells.toList).flatten := by
          unfold Builtin.zeroCells
          rw [hzs]
          rw [hzs] at hz0
          exact hz0
        have hst := run_storeCells_cells (P := E.P) b ((j + off) * blk.sz) (List.replicate n zv.cells.toList).flatten 0 w (fun y hy => by simpa using (hcell y hy).1) (fun y hy => by simpa using (hcell y hy).2) (vals_oneCell hvz hone)
        simp only [Nat.add_zero] at hst
        refine ⟨_, fp', hrun _ ?_, hR'⟩
        simp [Builtin.clear_, htys, run_underlying (elemIs_eq he), hzr, hzc', hst, hm]
  | _ => exact hp.elim
end
end Go.Amb

set_option linter.unusedSimpArgs false
set_option linter.unusedVariables false
namespace Go.Amb
open Go Go.RowKit

def nilF : Nat → Nat → Nat → AV := fun _ _ _ => .nilp
def noF : Nat → Nat → Nat → Prop := fun _ _ _ => False
mutual
/-- A value as it is told to a function: slices are read-only, headers become what they head, pointers what they point to. -/
def mapA (fh fq : Nat → Nat → Nat → AV) : AV → AV
  | .hdr r o n => fh r o n
  | .ptr r i o => fq r i o
  | .sl .fro xs => .sl .fro xs
  | .sl .fre xs => .sl .fro xs
  | .sl .ext xs => .sl .fro (mapAs fh fq xs)
  | .sl (.own _) xs => .sl .fro (mapAs fh fq xs)
  | .agg cs => .agg (mapAs fh fq cs)
  | .tup cs => .tup (mapAs fh fq cs)
  | .fptr x o => .fptr (mapA fh fq x) o
  | .fn f cs => .fn f (mapAs fh fq cs)
  | .mfn f cs => .mfn f (mapAs fh fq cs)
  | .ifc t v => .ifc t (mapA fh fq v)
  | .grd g v => .grd g (mapA fh fq v)
  | .undef => .undef
  | .int k n => .int k n
  | .bool b => .bool b
  | .str s => .str s
  | .nilp => .nilp
  | .nilf => .nilf
  | .nili => .nili
def mapAs (fh fq : Nat → Nat → Nat → AV) : List AV → List AV
  | [] => []
  | v :: vs => mapA fh fq v :: mapAs fh fq vs
end
mutual
/-- No header and no pointer but those that it lets by. -/
def okA (oh oq : Nat → Nat → Nat → Prop) : AV → Prop
  | .hdr r o n => oh r o n
  | .ptr r i o => oq r i o
  | .sl .ext xs => okAs oh oq xs
  | .agg cs => okAs oh oq cs
  | .tup cs => okAs oh oq cs
  | .fptr x _ => okA oh oq x
  | .fn _ cs => okAs oh oq cs
  | .mfn _ cs => okAs oh oq cs
  | .ifc _ v => okA oh oq v
  | .grd _ v => okA oh oq v
  | _ => True
def okAs (oh oq : Nat → Nat → Nat → Prop) : List AV → Prop
  | [] => True
  | v :: vs => okA oh oq v ∧ okAs oh oq vs
end

section
variable {fh fq : Nat → Nat → Nat → AV} {oh oq : Nat → Nat → Nat → Prop}
theorem mapAs_eq (xs : List AV) : mapAs fh fq xs = xs.map (mapA fh fq) := by
  induction xs with
  | nil => rfl
  | cons x xs ih => simp [mapAs, ih]
theorem okAs_iff (xs : List AV) : okAs oh oq xs ↔ ∀ x ∈ xs, okA oh oq x := by
  induction xs with
  | nil => simp [okAs]
  | cons x xs ih => simp [okAs, ih]
theorem mapA_one (h1 : ∀ r o n, (fh r o n).one = true) (h2 : ∀ r o n, (fq r o n).one = true) (v : AV) : (mapA fh fq v).one = v.one := by
  cases v with
  | sl k xs => cases k <;> rfl
  | hdr r o n => exact h1 r o n
  | ptr r i o => exact h2 r i o
  | _ => rfl
theorem cellsOf_one {v : AV} (h : v.one = true) : cellsOf v = [v] := by cases v <;> simp_all [cellsOf, AV.one]
theorem mapA_cells (h1 : ∀ r o n, (fh r o n).one = true) (h2 : ∀ r o n, (fq r o n).one = true) (v : AV) : cellsOf (mapA fh fq v) = mapAs fh fq (cellsOf v) := by
  cases v with
  | agg cs => rfl
  | tup cs => rfl
  | grd g v => rfl
  | undef => rfl
  | _ =>
    rw [cellsOf_one (by rw [mapA_one h1 h2]; rfl), cellsOf_one (by rfl)]
    rfl
theorem mapA_flat (h1 : ∀ r o n, (fh r o n).one = true) (h2 : ∀ r o n, (fq r o n).one = true) (xs : List AV) : flat (mapAs fh fq xs) = mapAs fh fq (flat xs) := by
  induction xs with
  | nil => rfl
  | cons x xs ih => rw [mapAs, flat_cons, ih, mapA_cells h1 h2, flat_cons, mapAs_eq, mapAs_eq, mapAs_eq, List.map_append]
theorem okA_cells {v : AV} (h : okA oh oq v) : okAs oh oq (cellsOf v) := by
  cases v with
  | agg cs => exact h
  | _ => exact ⟨h, trivial⟩
theorem okA_flat {xs : List AV} (h : okAs oh oq xs) : okAs oh oq (flat xs) := by
  rw [okAs_iff] at *
  intro x hx
  simp only [flat, List.mem_flatMap] at hx
  obtain ⟨y, hy, hx⟩ := hx
  have := okA_cells (h y hy)
  rw [okAs_iff] at this
  exact this x hx

/-- Told as a list of values: the relation stands, nothing is owned. -/
theorem map_vals {w : World} {O O' : Nat → Prop} {B B' : Nat} {pl0 : Pls} (h1 : ∀ r o n, (fh r o n).one = true) (h2 : ∀ r o n, (fq r o n).one = true)
    (Hh : ∀ r o n u, oh r o n → Vals w O B pl0 [.hdr r o n] [u] [] → Vals w O' B' noPl [fh r o n] [u] [])
    (Hq : ∀ r o n u, oq r o n → Vals w O B pl0 [.ptr r o n] [u] [] → Vals w O' B' noPl [fq r o n] [u] [])
    (hO : ∀ b, b < w.heap.size → ¬ O b → ¬ O' b) {pl : Pls} {vs : List AV} {us : List Value} {fp : List Nat} (h : Vals w O B pl vs us fp) :
    (pl = pl0 ∧ okAs oh oq vs ∨ pl = noPl) → (∀ b ∈ fp, ¬ O' b) → Vals w O' B' noPl (mapAs fh fq vs) us [] := by
  induction h with
  | nil => intros; exact .nil
  | int t ih => intro hp hf; exact .int (ih (hp.imp (fun h => ⟨h.1, h.2.2⟩) id) hf)
  | bool t ih => intro hp hf; exact .bool (ih (hp.imp (fun h => ⟨h.1, h.2.2⟩) id) hf)
  | str t ih => intro hp hf; exact .str (ih (hp.imp (fun h => ⟨h.1, h.2.2⟩) id) hf)
  | nilp t ih => intro hp hf; exact .nilp (ih (hp.imp (fun h => ⟨h.1, h.2.2⟩) id) hf)
  | nilf t ih => intro hp hf; exact .nilf (ih (hp.imp (fun h => ⟨h.1, h.2.2⟩) id) hf)
  | nili t ih => intro hp hf; exact .nili (ih (hp.imp (fun h => ⟨h.1, h.2.2⟩) id) hf)
  | ptr h t ih =>
    intro hp hf
    rcases hp with ⟨rfl, hk⟩ | rfl
    · exact (Hq _ _ _ _ hk.1 (.ptr h .nil)).cons (ih (.inl ⟨rfl, hk.2⟩) hf)
    · cases h
  | fptr hb hl hc ha t ihc ih =>
    intro hp hf
    have hcs := ihc (hp.imp (fun h => ⟨h.1, okA_cells h.2.1⟩) id) (by simp)
    rw [← mapA_cells h1 h2] at hcs
    exact .fptr (hO _ hl hb) hl hcs ha (ih (hp.imp (fun h => ⟨h.1, h.2.2⟩) id) hf)
  | @sle pl k A c vs us fp hk hc t ih =>
    intro hp hf
    have := ih (hp.imp (fun h => ⟨h.1, h.2.2⟩) id) hf
    cases k with
    | own sz => simp [SK.ro] at hk
    | _ => exact .sle rfl (by simp) this
  | slf hk hx hb hl hz hu ho hc ha hn t ihc ih =>
    intro hp hf
    have := ih (hp.imp (fun h => ⟨h.1, h.2.2⟩) id) hf
    have hc' := hc.shift (w' := _) (B' := B') (O' := O') (fun b _ _ => rfl) (Nat.le_refl _) hO noPl (fun _ _ h => h)
    rcases hk with rfl | rfl <;> exact .slf (.inl rfl) hx (hO _ hl hb) hl hz hu ho hc' ha hn this
  | @slx pl xs b p sz cs vs us fp hx hb hl hz hu ho hc ha t ihc ih =>
    intro hp hf
    have hcs := ihc (hp.imp (fun h => ⟨h.1, okA_flat h.2.1⟩) id) (by simp)
    rw [← mapA_flat h1 h2] at hcs
    have hl' : (mapAs fh fq xs).length = xs.length := by simp [mapAs_eq]
    have := Vals.slf (w := w) (O := O') (B := B') (k := .fro) (xs := mapAs fh fq xs) (c := xs.length) (.inl rfl) (by simpa [mapAs_eq] using hx) (hO _ hl hb) hl hz
      (by intro x hx; rw [mapAs_eq, List.mem_map] at hx; obtain ⟨y, hy, rfl⟩ := hx; rw [mapA_cells h1 h2, mapAs_eq, List.length_map]; exact hu y hy)
      (by intro x hx; rw [mapA_flat h1 h2, mapAs_eq, List.mem_map] at hx; obtain ⟨y, hy, rfl⟩ := hx; rw [mapA_one h1 h2]; exact ho y hy)
      hcs ha (by omega) (ih (hp.imp (fun h => ⟨h.1, h.2.2⟩) id) hf)
    rw [hl'] at this
    exact this
  | owe t ih => intro hp hf; exact .sle rfl (by simp) (ih (hp.imp (fun h => ⟨h.1, h.2.2⟩) id) hf)
  | @ow pl sz xs b j cap cs fp1 vs us fp hr hl hz hu ho hn hc ha t ihc ih =>
    intro hp hf
    have ht := ih (hp.imp (fun h => ⟨h.1, h.2.2⟩) id) (fun b hb => hf b (by simp [hb]))
    by_cases hx : xs = []
    · subst hx; exact .sle rfl (by simp) ht
    have hcs := ihc (.inr rfl) (fun b hb => hf b (by simp [hb]))
    rw [← mapA_flat h1 h2] at hcs
    have hl' : (mapAs fh fq xs).length = xs.length := by simp [mapAs_eq]
    have := Vals.slf (w := w) (O := O') (B := B') (k := .fro) (xs := mapAs fh fq xs) (c := cap) (.inl rfl) (by simpa [mapAs_eq] using hx) (hf _ (by simp)) hl hz
      (by intro x hx; rw [mapAs_eq, List.mem_map] at hx; obtain ⟨y, hy, rfl⟩ := hx; rw [mapA_cells h1 h2, mapAs_eq, List.length_map]; exact hu y hy)
      (by intro x hx; rw [mapA_flat h1 h2, mapAs_eq, List.mem_map] at hx; obtain ⟨y, hy, rfl⟩ := hx; rw [mapA_one h1 h2]; exact ho y hy)
      hcs ha (by omega) ht
    rw [hl'] at this
    exact this
  | hdr h hn hA t ih =>
    intro hp hf
    rcases hp with ⟨rfl, hk⟩ | rfl
    · exact (Hh _ _ _ _ hk.1 (.hdr h hn hA .nil)).cons (ih (.inl ⟨rfl, hk.2⟩) hf)
    · cases h
  | hdre h t ih =>
    intro hp hf
    rcases hp with ⟨rfl, hk⟩ | rfl
    · exact (Hh _ _ _ _ hk.1 (.hdre h .nil)).cons (ih (.inl ⟨rfl, hk.2⟩) hf)
    · cases h
  | agg ho hc t ihc ih =>
    intro hp hf
    exact .agg (fp1 := []) (fp := []) (by intro x hx; rw [mapAs_eq, List.mem_map] at hx; obtain ⟨y, hy, rfl⟩ := hx; rw [mapA_one h1 h2]; exact ho y hy)
      (ihc (hp.imp (fun h => ⟨h.1, h.2.1⟩) id) (fun b hb => hf b (by simp [hb]))) (ih (hp.imp (fun h => ⟨h.1, h.2.2⟩) id) (fun b hb => hf b (by simp [hb])))
  | tup hc t ihc ih =>
    intro hp hf
    exact .tup (fp1 := []) (fp := []) (ihc (hp.imp (fun h => ⟨h.1, h.2.1⟩) id) (fun b hb => hf b (by simp [hb]))) (ih (hp.imp (fun h => ⟨h.1, h.2.2⟩) id) (fun b hb => hf b (by simp [hb])))
  | fn hc t ihc ih => intro hp hf; exact .fn (ihc (hp.imp (fun h => ⟨h.1, h.2.1⟩) id) (by simp)) (ih (hp.imp (fun h => ⟨h.1, h.2.2⟩) id) hf)
  | mfn hc t ihc ih => intro hp hf; exact .mfn (ihc (hp.imp (fun h => ⟨h.1, h.2.1⟩) id) (by simp)) (ih (hp.imp (fun h => ⟨h.1, h.2.2⟩) id) hf)
  | ifc hc t ihc ih => intro hp hf; exact .ifc (by simpa [mapAs] using ihc (hp.imp (fun h => ⟨h.1, ⟨h.2.1, trivial⟩⟩) id) (by simp)) (ih (hp.imp (fun h => ⟨h.1, h.2.2⟩) id) hf)
  | grd hc hu t ihc ih => intro hp hf; exact .grd (fun g => by simpa [mapAs] using ihc g (hp.imp (fun h => ⟨h.1, ⟨h.2.1, trivial⟩⟩) id) (by simp)) hu (ih (hp.imp (fun h => ⟨h.1, h.2.2⟩) id) hf)
end

/-- A closed value, frozen. -/
def clC : AV → AV := mapA nilF nilF
def fzB (h : Nat → Option Blk) (r off n : Nat) : AV :=
  match h r with
  | some b => .sl .fro (((b.es.drop off).take n).map clC)
  | none => .nilp
def okB (h : Nat → Option Blk) (r off n : Nat) : Prop :=
  match h r with
  | some b => b.box = false ∧ off + n ≤ b.es.length
  | none => False
def fzQ (h : Nat → Option Blk) (r i o : Nat) : AV :=
  match h r with
  | some b => .fptr (mapA (fzB h) nilF (elemAt b.es i)) o
  | none => .nilp
def okQ (h : Nat → Option Blk) (r i _o : Nat) : Prop :=
  match h r with
  | some b => b.box = true ∧ i < b.es.length ∧ okA (okB h) noF (elemAt b.es i)
  | none => False
/-- An argument, frozen. -/
def fzA (h : Nat → Option Blk) : AV → AV := mapA (fzB h) (fzQ h)
theorem fzB_one (h : Nat → Option Blk) (r o n : Nat) : (fzB h r o n).one = true := by unfold fzB; split <;> rfl
theorem fzQ_one (h : Nat → Option Blk) (r o n : Nat) : (fzQ h r o n).one = true := by unfold fzQ; split <;> rfl
theorem nilF_one (r o n : Nat) : (nilF r o n).one = true := rfl

section
variable {E : Env} {st : St} {a : Act} {w : World} {pl : Pls} {fp : Nat → List Nat}
def noO : Nat → Prop := fun _ => False

theorem hdr_frozen (hR : RelW E st a w pl fp) (B' : Nat) (r o n : Nat) (u : Value) (hk : okB st.heap r o n) (hv : Vals w (Own E st fp) E.w0.heap.size pl [.hdr r o n] [u] []) :
    Vals w noO B' noPl [fzB st.heap r o n] [u] [] := by
  have hc : closeOk st.heap (.hdr r o n) := hk
  obtain ⟨f, h1, _, _⟩ := close1 hR hv hc
  have h2 := map_vals (fh := nilF) (fq := nilF) (oh := noF) (oq := noF) (pl0 := noPl) (O' := noO) (B' := B') nilF_one nilF_one (fun _ _ _ _ h => h.elim) (fun _ _ _ _ h => h.elim) (fun _ _ _ h => h) h1 (.inr rfl) (fun _ _ h => h)
  unfold okB at hk
  unfold fzB
  cases hb : st.heap r with
  | none => rw [hb] at hk; exact hk.elim
  | some b =>
    simp only [closeV, hb, mapAs, mapA] at h2
    simpa [mapAs_eq, clC] using h2

theorem ptr_frozen (hR : RelW E st a w pl fp) (B' : Nat) (r i o : Nat) (u : Value) (hk : okQ st.heap r i o) (hv : Vals w (Own E st fp) E.w0.heap.size pl [.ptr r i o] [u] []) :
    Vals w noO B' noPl [fzQ st.heap r i o] [u] [] := by
  unfold okQ at hk
  unfold fzQ
  cases hb : st.heap r with
  | none => rw [hb] at hk; exact hk.elim
  | some blk =>
    rw [hb] at hk
    obtain ⟨hbox, hi, hok⟩ := hk
    obtain ⟨hz, ⟨j, h, he, hfe⟩ | ⟨b, j, cap, cs, fp1, h, hr, hl, hu, ho, hn, hcv, ha, hfe⟩⟩ := (hR.roots r blk hb).inv
    · rw [he] at hi; simp at hi
    rw [hbox] at hcv
    simp only [if_true] at hcv
    cases hv with
    | @ptr _ _ _ _ b' j' sz' cap' _ _ _ h' t =>
      rw [h] at h'
      injection h' with h'
      injection h' with e1 e2 e3 e4
      injection e1 with e1
      subst e1 e2 e3 e4
      obtain ⟨ds, g, v1, v2, _⟩ := sub_row hu hcv ha i 1 (by omega)
      have e : (blk.es.drop i).take 1 = [elemAt blk.es i] := by
        rw [List.take_one, List.head?_drop]
        simp [elemAt, List.getElem?_eq_getElem hi]
      rw [e] at v1
      have hfl : flat [elemAt blk.es i] = cellsOf (elemAt blk.es i) := by simp [flat]
      rw [hfl] at v1
      have h2 := map_vals (fh := fzB st.heap) (fq := nilF) (oh := okB st.heap) (oq := noF) (pl0 := pl) (O' := noO) (B' := B') (fzB_one _) nilF_one (fun r o n u hk hv => hdr_frozen hR B' r o n u hk hv) (fun _ _ _ _ h => h.elim)
        (fun _ _ _ h => h) v1 (.inl ⟨rfl, okA_cells hok⟩) (fun _ _ h => h)
      rw [← mapA_cells (fzB_one _) nilF_one] at h2
      rw [Nat.add_mul]
      exact .fptr (fun h => h) hl h2 v2 .nil

/-- Arguments, frozen: the callee reads what the caller owns. -/
theorem args_frozen (hR : RelW E st a w pl fp) (B' : Nat) {vs : List AV} {us : List Value} (hv : Vals w (Own E st fp) E.w0.heap.size pl vs us []) (hok : okAs (okB st.heap) (okQ st.heap) vs) :
    Vals w noO B' noPl (vs.map (fzA st.heap)) us [] := by
  have := map_vals (fh := fzB st.heap) (fq := fzQ st.heap) (O' := noO) (B' := B') (fzB_one _) (fzQ_one _) (fun r o n u hk hv => hdr_frozen hR B' r o n u hk hv) (fun r o n u hk hv => ptr_frozen hR B' r o n u hk hv) (fun _ _ _ h => h) hv (.inl ⟨rfl, hok⟩) (by simp)
  simpa [mapAs_eq, fzA] using this
/-- Arguments that hold nothing of the caller's own. -/
theorem args_apart (hR : RelW E st a w pl fp) (B' : Nat) {vs : List AV} {us : List Value} (hv : Vals w (Own E st fp) E.w0.heap.size pl vs us []) (hok : okAs noF noF vs) :
    Vals w (Own E st fp) B' noPl (vs.map (fzA st.heap)) us [] := by
  have := map_vals (fh := fzB st.heap) (fq := fzQ st.heap) (oh := noF) (oq := noF) (O' := Own E st fp) (B' := B') (fzB_one _) (fzQ_one _) (fun _ _ _ _ h => h.elim) (fun _ _ _ _ h => h.elim) (fun _ _ h => h) hv (.inl ⟨rfl, hok⟩) (by simp)
  simpa [mapAs_eq, fzA] using this
end
end Go.Amb

set_option linter.unusedSimpArgs false
set_option linter.unusedVariables false
namespace Go.Amb
open Go Go.RowKit

/-- The roots behind a call: those that came back, and those that were not handed over. -/
def over (H0 H1 : List (Nat × Blk)) (h : Nat → Option Blk) : Nat → Option Blk := fun q =>
  match mkH H1 q with
  | some b => some b
  | none => if (mkH H0 q).isSome then none else h q
def afterS (st : St) (H0 H1 : List (Nat × Blk)) (N n' : Nat) : St := { st with heap := over H0 H1 st.heap, us := fun q => st.us q || (decide (N ≤ q) && decide (q < n')) }
def Ends (E : Env) (H0 : List (Nat × Blk)) (N : Nat) (Q : List (Nat × Blk) → Nat → AV → Prop) : Ending → World → Prop
  | .returned v, w' => ∃ H1 n' r a' pl' fp', Q H1 n' r ∧ N ≤ n' ∧ (∀ q, (mkH H1 q).isSome = true → (mkH H0 q).isSome = true ∨ N ≤ q) ∧ RelW E (mkS [] H1 n') a' w' pl' fp' ∧
      Vals w' (Own E (mkS [] H1 n') fp') E.w0.heap.size pl' [r] [v] []
  | _, _ => False
/-- Called with these roots (whose numbers lie below N) and arguments, the function ends with those roots and that value, of which Q holds. -/
def BCall (P : Program) (f : Nat) (H0 : List (Nat × Blk)) (N : Nat) (args : List AV) (Q : List (Nat × Blk) → Nat → AV → Prop) : Prop :=
  bodied P f = true ∧ ∀ (E : Env) (a : Act) (pl : Pls) (fp : Nat → List Nat) (us : List Value), E.P = P → E.nb = N → E.pl0 = pl → RelW E (mkS [] H0 N) a E.w0 pl fp →
    Vals E.w0 (Own E (mkS [] H0 N) fp) E.w0.heap.size pl args us [] → Calls P f us.toArray E.w0 (Ends E H0 N Q)

section
variable {E : Env} {st : St} {a : Act} {w w' : World} {pl pl' : Pls} {fp : Nat → List Nat}

theorem RootRel.to {O O' : Nat → Prop} {B B' : Nat} {r : Nat} {blk : Blk} {f : List Nat} (h : RootRel w O B pl r blk f) (hs : ∀ b, (b ∈ f ∨ ¬ O b) → b < w.heap.size → w'.heap[b]? = w.heap[b]?) (hz : w.heap.size ≤ w'.heap.size)
    (hO : ∀ b, b < w.heap.size → ¬ O b → ¬ O' b) (hp : ∀ q p, pl q = some p → pl' q = some p) : RootRel w' O' B' pl' r blk f := by
  cases h with
  | emp h he h0 => exact .emp (hp _ _ h) he h0
  | @blk b j cap cs fp1 h hr hl h0 hu h1 hn hc ha =>
    have hb := hs b (.inl (by simp)) hl
    refine .blk (hp _ _ h) (hr.move hb) (by omega) h0 hu h1 hn ?_ (ha.move hb)
    refine hc.shift (fun x hx hl => hs x (hx.imp (fun h => List.mem_cons_of_mem _ h) id) hl) hz hO _ ?_
    intro q p hq
    split at hq
    · rename_i hb; rw [if_pos hb]; exact hp q p hq
    · cases hq

/-- What the caller lends, and what it has again. -/
theorem share_sound (hR : RelW E st a w pl fp) {H0 : List (Nat × Blk)} {N f : Nat} {args : List AV} {us : List Value} {Q : List (Nat × Blk) → Nat → AV → Prop} (hB : BCall E.P f H0 N args Q) (hv : Vals w (Own E st fp) E.w0.heap.size pl args us [])
    (hH : ∀ q b, mkH H0 q = some b → st.heap q = some b) (hN : ∀ r, st.us r = true → r < N) :
    Calls E.P f us.toArray w (fun e w' => match e with
      | .returned v => ∃ H1 n' r pl' fp', Q H1 n' r ∧ RelW E (afterS st H0 H1 N n') a w' pl' fp' ∧ Vals w' (Own E (afterS st H0 H1 N n') fp') E.w0.heap.size pl' [r] [v] []
      | _ => False) := by
  let Gv : Nat → Prop := fun b => ∃ q, (mkH H0 q).isSome = true ∧ b ∈ fp q
  let Xv : Nat → Prop := fun b => E.X b ∨ ∃ q, (st.heap q).isSome = true ∧ (mkH H0 q).isSome = false ∧ b ∈ fp q
  let E' : Env := ⟨E.P, a.tmps.size, w, Xv, Gv, pl, N⟩
  have hlive : ∀ q, (mkH H0 q).isSome = true → (st.heap q).isSome = true := by
    intro q hq
    cases hm : mkH H0 q with
    | none => rw [hm] at hq; cases hq
    | some b => rw [hH q b hm]; rfl
  have hOO : ∀ b, Own E' (mkS [] H0 N) fp b ↔ Own E st fp b := by
    intro b
    constructor
    · rintro ((hx | ⟨q, h1, h2, h3⟩) | ⟨q, h1, h2⟩)
      · exact .inl hx
      · exact .inr ⟨q, h1, h3⟩
      · exact .inr ⟨q, hlive q h1, h2⟩
    · rintro (hx | ⟨q, h1, h2⟩)
      · exact .inl (.inl hx)
      · cases hm : (mkH H0 q).isSome with
        | true => exact .inr ⟨q, hm, h2⟩
        | false => exact .inl (.inr ⟨q, h1, hm, h2⟩)
  have hplN : ∀ q p, pl q = some p → q < N := by
    intro q p hq
    rcases Nat.lt_or_ge q N with h | h
    · exact h
    · have : st.us q = false := by
        cases hu : st.us q with
        | false => rfl
        | true => have := hN q hu; omega
      rw [hR.unused q this] at hq
      cases hq
  have hxs : ∀ b, Xv b → b < w.heap.size := by
    rintro b (hx | ⟨q, h1, _, h3⟩)
    · exact own_lt hR (.inl hx)
    · exact (hR.own q h1 b h3).1
  have hgx : ∀ b, Gv b → b < w.heap.size ∧ ¬ Xv b := by
    rintro b ⟨q, h1, h2⟩
    have hq := hlive q h1
    refine ⟨(hR.own q hq b h2).1, ?_⟩
    rintro (hx | ⟨q', h3, h4, h5⟩)
    · exact (hR.own q hq b h2).2.2 hx
    · exact hR.disj q q' b hq h3 (fun e => by subst e; rw [h1] at h4; cases h4) h2 h5
  have hR' : RelW E' (mkS [] H0 N) a w pl fp :=
    { size := rfl
      defers := hR.defers
      plx := fun q _ => rfl
      unused := fun q hq => by
        cases hp : pl q with
        | none => rfl
        | some p => have := hplN q p hp; simp [mkS] at hq; omega
      used := fun q hq => by simpa [mkS] using hN q (hR.used q (hlive q hq))
      usnb := fun q hq => by simpa [mkS] using hq
      roots := fun q blk hq => (hR.roots q blk (hH q blk hq)).to (fun _ _ _ => rfl) (Nat.le_refl _) (fun b _ hn ho => hn ((hOO b).1 ho)) (fun _ _ h => h)
      nodup := fun q hq => hR.nodup q (hlive q hq)
      own := fun q hq b hb => ⟨(hR.own q (hlive q hq) b hb).1, .inr ⟨q, hq, hb⟩, (hgx b ⟨q, hq, hb⟩).2⟩
      disj := fun q q' b hq hq' => hR.disj q q' b (hlive q hq) (hlive q' hq')
      xold := hxs
      gold := hgx
      tmps := fun d hd => absurd rfl hd
      keeps := ⟨rfl, rfl, rfl, Nat.le_refl _, fun _ _ _ => rfl⟩ }
  refine Calls.mono (hB.2 E' a pl fp us rfl rfl rfl hR' (hv.shift (fun _ _ _ => rfl) (Nat.le_refl _) (fun b _ hn ho => hn ((hOO b).1 ho)) pl (fun _ _ h => h))) fun e w' he => ?_
  cases e with
  | panicked c => exact he.elim
  | outgrown => exact he.elim
  | returned v =>
    obtain ⟨H1, n', r, a', pl', fp', hQ, hn', hk1, hR1, hv1⟩ := he
    have hplx : ∀ q p, pl q = some p → pl' q = some p := fun q p hq => (hR1.plx q (hplN q p hq)).trans hq
    let fq : Nat → List Nat := fun q => if (mkH H1 q).isSome then fp' q else fp q
    have hq1 : ∀ q, (mkH H1 q).isSome = true → fq q = fp' q := fun q hq => by simp only [fq, hq, if_true]
    have hq2 : ∀ q, (mkH H1 q).isSome = false → fq q = fp q := fun q hq => by simp only [fq, hq]; simp
    have hheap1 : ∀ q b, mkH H1 q = some b → (afterS st H0 H1 N n').heap q = some b := by
      intro q b hq; simp only [afterS, over, hq]
    have hheap : ∀ q b, (afterS st H0 H1 N n').heap q = some b → mkH H1 q = some b ∨ ((mkH H1 q).isSome = false ∧ (mkH H0 q).isSome = false ∧ st.heap q = some b) := by
      intro q b hq
      simp only [afterS, over] at hq
      cases hm : mkH H1 q with
      | some b' => rw [hm] at hq; exact .inl hq
      | none =>
        rw [hm] at hq
        simp only at hq
        split at hq
        · cases hq
        · rename_i hh; exact .inr ⟨rfl, by simpa using hh, hq⟩
    have hliv : ∀ q, ((afterS st H0 H1 N n').heap q).isSome = true → ((mkH H1 q).isSome = true ∧ fq q = fp' q) ∨ ((mkH H1 q).isSome = false ∧ (mkH H0 q).isSome = false ∧ (st.heap q).isSome = true ∧ fq q = fp q) := by
      intro q hq
      cases hb : (afterS st H0 H1 N n').heap q with
      | none => rw [hb] at hq; cases hq
      | some b =>
        rcases hheap q b hb with h | ⟨h1, h2, h3⟩
        · exact .inl ⟨by rw [h]; rfl, hq1 q (by rw [h]; rfl)⟩
        · exact .inr ⟨h1, h2, by rw [h3]; rfl, hq2 q h1⟩
    have hown1 : ∀ q b, (mkH H1 q).isSome = true → b ∈ fp' q → b < w'.heap.size ∧ (w.heap.size ≤ b ∨ Gv b) ∧ ¬ Xv b := fun q b hq hb => hR1.own q hq b hb
    have hO2 : ∀ b, Own E (afterS st H0 H1 N n') fq b → Own E' (mkS [] H1 n') fp' b := by
      rintro b (hx | ⟨q, h1, h2⟩)
      · exact .inl (.inl hx)
      · rcases hliv q h1 with ⟨h3, h4⟩ | ⟨h3, h4, h5, h6⟩
        · rw [h4] at h2; exact .inr ⟨q, h3, h2⟩
        · rw [h6] at h2; exact .inl (.inr ⟨q, h5, h4, h2⟩)
    have hO3 : ∀ b, b < w.heap.size → ¬ Own E st fp b → ¬ Own E (afterS st H0 H1 N n') fq b := by
      intro b hb hno ho
      rcases hO2 b ho with hx | ⟨q, h1, h2⟩
      · rcases hx with hx | ⟨q, h1, _, h3⟩
        · exact hno (.inl hx)
        · exact hno (.inr ⟨q, h1, h3⟩)
      · rcases (hown1 q b h1 h2).2.1 with h | ⟨q', h3, h4⟩
        · omega
        · exact hno (.inr ⟨q', hlive q' h3, h4⟩)
    have hkeep : ∀ b, b < w.heap.size → ¬ Gv b → w'.heap[b]? = w.heap[b]? := fun b hb hg => hR1.keeps.block b hb hg
    have hGO : ∀ b, Gv b → Own E st fp b := by rintro b ⟨q, h1, h2⟩; exact .inr ⟨q, hlive q h1, h2⟩
    have hsz : w.heap.size ≤ w'.heap.size := hR1.keeps.size
    refine ⟨H1, n', r, pl', fq, hQ, ?_, hv1.shift (fun _ _ _ => rfl) (Nat.le_refl _) (fun b _ hn ho => hn (hO2 b ho)) pl' (fun _ _ h => h)⟩
    exact
      { size := hR.size
        defers := hR.defers
        plx := fun q hq => by
          have hu : st.us q = true := hR.usnb q hq
          exact (hR1.plx q (hN q hu)).trans (hR.plx q hq)
        unused := fun q hq => by
          simp only [afterS, Bool.or_eq_false_iff, Bool.and_eq_false_iff, decide_eq_false_iff_not] at hq
          rcases Nat.lt_or_ge q N with h | h
          · exact (hR1.plx q h).trans (hR.unused q hq.1)
          · refine hR1.unused q ?_
            have : ¬ q < n' := by
              rcases hq.2 with h' | h'
              · exact absurd h h'
              · exact h'
            simpa [mkS] using this
        used := fun q hq => by
          simp only [afterS, Bool.or_eq_true, Bool.and_eq_true, decide_eq_true_eq]
          rcases hliv q hq with ⟨h1, _⟩ | ⟨_, _, h3, _⟩
          · rcases hk1 q h1 with h | h
            · exact .inl (hR.used q (hlive q h))
            · exact .inr ⟨h, by simpa [mkS] using hR1.used q h1⟩
          · exact .inl (hR.used q h3)
        usnb := fun q hq => by
          simp only [afterS, Bool.or_eq_true]
          exact .inl (hR.usnb q hq)
        roots := fun q blk hq => by
          rcases hheap q blk hq with h | ⟨h1, h2, h3⟩
          · rw [hq1 q (by rw [h]; rfl)]
            exact (hR1.roots q blk h).to (fun _ _ _ => rfl) (Nat.le_refl _) (fun b _ hn ho => hn (hO2 b ho)) (fun _ _ h => h)
          · rw [hq2 q h1]
            have hl3 : (st.heap q).isSome = true := by rw [h3]; rfl
            refine (hR.roots q blk h3).to ?_ hsz hO3 hplx
            rintro b (hb | hb) hbl
            · exact hkeep b hbl (fun hg => (hgx b hg).2 (.inr ⟨q, hl3, h2, hb⟩))
            · exact hkeep b hbl (fun hg => hb (hGO b hg))
        nodup := fun q hq => by
          rcases hliv q hq with ⟨h1, h2⟩ | ⟨_, _, h3, h4⟩
          · rw [h2]; exact hR1.nodup q h1
          · rw [h4]; exact hR.nodup q h3
        own := fun q hq b hb => by
          rcases hliv q hq with ⟨h1, h2⟩ | ⟨_, _, h3, h4⟩
          · rw [h2] at hb
            obtain ⟨h5, h6, h7⟩ := hown1 q b h1 hb
            refine ⟨h5, ?_, fun hx => h7 (.inl hx)⟩
            rcases h6 with h6 | ⟨q', h8, h9⟩
            · exact .inl (Nat.le_trans hR.keeps.size h6)
            · exact (hR.own q' (hlive q' h8) b h9).2.1
          · rw [h4] at hb
            obtain ⟨h5, h6, h7⟩ := hR.own q h3 b hb
            exact ⟨by omega, h6, h7⟩
        disj := fun q q' b hq hq' hne hb hb' => by
          rcases hliv q hq with ⟨h1, h2⟩ | ⟨_, h2, h3, h4⟩ <;> rcases hliv q' hq' with ⟨h1', h2'⟩ | ⟨_, h2', h3', h4'⟩
          · rw [h2] at hb; rw [h2'] at hb'; exact hR1.disj q q' b h1 h1' hne hb hb'
          · rw [h2] at hb; rw [h4'] at hb'; exact (hown1 q b h1 hb).2.2 (.inr ⟨q', h3', h2', hb'⟩)
          · rw [h4] at hb; rw [h2'] at hb'; exact (hown1 q' b h1' hb').2.2 (.inr ⟨q, h3, h2, hb⟩)
          · rw [h4] at hb; rw [h4'] at hb'; exact hR.disj q q' b h3 h3' hne hb hb'
        xold := hR.xold
        gold := hR.gold
        tmps := fun d hd => by
          obtain ⟨u, h1, h2⟩ := hR.tmps d hd
          refine ⟨u, h1, h2.shift ?_ hsz hO3 pl' hplx⟩
          rintro b (hb | hb) hbl
          · cases hb
          · exact hkeep b hbl (fun hg => hb (hGO b hg))
        keeps :=
          ⟨hR1.keeps.os.trans hR.keeps.os, hR1.keeps.tape.trans hR.keeps.tape, hR1.keeps.output.trans hR.keeps.output, Nat.le_trans hR.keeps.size hsz, fun b hb hg => by
            have hbw : b < w.heap.size := Nat.lt_of_lt_of_le hb hR.keeps.size
            refine (hkeep b hbw ?_).trans (hR.keeps.block b hb hg)
            rintro ⟨q, h1, h2⟩
            rcases (hR.own q (hlive q h1) b h2).2.1 with h | h
            · omega
            · exact hg h⟩ }
end
end Go.Amb

set_option linter.unusedSimpArgs false
set_option linter.unusedVariables false
namespace Go.Amb
open Go Go.RowKit

mutual
/-- No memory but what it owns. -/
def sc : AV → Bool
  | .int .. | .bool _ | .str _ | .nilp | .nilf | .nili => true
  | .sl (.own _) xs => scs xs
  | .sl _ xs => xs.isEmpty
  | .agg cs | .tup cs => scs cs
  | _ => false
def scs : List AV → Bool
  | [] => true
  | v :: vs => sc v && scs vs
end
theorem scs_all (xs : List AV) : scs xs = xs.all sc := by
  induction xs with
  | nil => rfl
  | cons x xs ih => simp [scs, ih]
theorem scs_flat {xs : List AV} (h : scs xs = true) : scs (flat xs) = true := by
  rw [scs_all, List.all_eq_true] at *
  intro x hx
  simp only [flat, List.mem_flatMap] at hx
  obtain ⟨y, hy, hx⟩ := hx
  have hy' := h y hy
  cases y with
  | agg cs =>
    simp only [cellsOf] at hx
    simp only [sc, scs_all, List.all_eq_true] at hy'
    exact hy' x hx
  | _ => simp only [cellsOf, List.mem_singleton] at hx; subst hx; exact hy'

theorem sc_shift {w : World} {O O' : Nat → Prop} {B B' : Nat} {pl : Pls} {vs : List AV} {us : List Value} {fp : List Nat} (h : Vals w O B pl vs us fp) : scs vs = true → ∀ pl', Vals w O' B' pl' vs us fp := by
  induction h with
  | nil => intros; exact .nil
  | int t ih => intro hs pl'; exact .int (ih (by simpa [scs, sc] using hs) _)
  | bool t ih => intro hs pl'; exact .bool (ih (by simpa [scs, sc] using hs) _)
  | str t ih => intro hs pl'; exact .str (ih (by simpa [scs, sc] using hs) _)
  | nilp t ih => intro hs pl'; exact .nilp (ih (by simpa [scs, sc] using hs) _)
  | nilf t ih => intro hs pl'; exact .nilf (ih (by simpa [scs, sc] using hs) _)
  | nili t ih => intro hs pl'; exact .nili (ih (by simpa [scs, sc] using hs) _)
  | ptr h t ih => intro hs; simp [scs, sc] at hs
  | fptr hb hl hc ha t ihc ih => intro hs; simp [scs, sc] at hs
  | @sle pl k A c vs us fp hk hc t ih =>
    intro hs pl'
    refine .sle hk hc (ih ?_ _)
    cases k <;> simp_all [scs, sc, SK.ro]
  | slf hk hx hb hl hz hu ho hc ha hn t ihc ih =>
    intro hs pl'
    rcases hk with rfl | rfl <;> simp [scs, sc, hx] at hs
  | slx hx hb hl hz hu ho hc ha t ihc ih => intro hs pl'; simp [scs, sc, hx] at hs
  | owe t ih => intro hs pl'; exact .owe (ih (by simpa [scs, sc] using hs) _)
  | ow hr hl hz hu ho hn hc ha t ihc ih =>
    intro hs pl'
    simp only [scs, sc, Bool.and_eq_true] at hs
    exact .ow hr hl hz hu ho hn (ihc (scs_flat hs.1) _) ha (ih hs.2 _)
  | hdr h hn hA t ih => intro hs; simp [scs, sc] at hs
  | hdre h t ih => intro hs; simp [scs, sc] at hs
  | agg ho hc t ihc ih => intro hs pl'; simp only [scs, sc, Bool.and_eq_true] at hs; exact .agg ho (ihc hs.1 _) (ih hs.2 _)
  | tup hc t ihc ih => intro hs pl'; simp only [scs, sc, Bool.and_eq_true] at hs; exact .tup (ihc hs.1 _) (ih hs.2 _)
  | fn hc t ihc ih => intro hs; simp [scs, sc] at hs
  | mfn hc t ihc ih => intro hs; simp [scs, sc] at hs
  | ifc hc t ihc ih => intro hs; simp [scs, sc] at hs
  | grd hc hu t ihc ih => intro hs; simp [scs, sc] at hs

/-! ### contracts -/
def Back (w : World) (X : Nat → Prop) (Q : AV → Prop) : Ending → World → Prop
  | .returned v, w' => ∃ r fr, Q r ∧ Vals w' (fun b => X b ∨ b ∈ fr) 0 noPl [r] [v] fr ∧ fr.Nodup ∧ (∀ b ∈ fr, w.heap.size ≤ b ∧ b < w'.heap.size) ∧ Keeps (fun _ => False) w w'
  | _, _ => False
/-- Called with these arguments, the function returns a value of which Q holds, and leaves all memory that was there alone. -/
def ACall (P : Program) (f : Nat) (args : List AV) (Q : AV → Prop) : Prop :=
  bodied P f = true ∧ ∀ (w : World) (X : Nat → Prop) (us : List Value), (∀ b, X b → b < w.heap.size) → Vals w X 0 noPl args us [] → Calls P f us.toArray w (Back w X Q)
theorem ACall.mono {P : Program} {f : Nat} {args : List AV} {Q Q' : AV → Prop} (h : ACall P f args Q) (hq : ∀ r, Q r → Q' r) : ACall P f args Q' :=
  ⟨h.1, fun w X us hx hv => Calls.mono (h.2 w X us hx hv) fun e w' he => by
    cases e with
    | returned v => obtain ⟨r, fr, h1, h2⟩ := he; exact ⟨r, fr, hq r h1, h2⟩
    | _ => exact he⟩

def adoptS (st : St) (k sz : Nat) (xs : List AV) : St := { st with heap := hupd st.heap (st.nx + k) (some ⟨sz, false, xs⟩), us := uupd st.us (st.nx + k) }
/-- What comes back is frozen, or becomes a root. -/
def retK (i : AI) (st : St) (K : St → Prop) (r : AV) : Prop :=
  if i.ad then
    match r with
    | .sl (.own sz) xs => st.us (st.nx + i.k) = false ∧ 0 < sz ∧ K ((adoptS st i.k sz xs).put i.dst (.hdr (st.nx + i.k) 0 xs.length))
    | _ => False
  else K (st.put i.dst (clC r))
/-- A call that is handed roots. -/
def evLend (P : Program) (i : AI) (st : St) (K : St → Prop) (f : Nat) (vs : List AV) : Prop :=
  ∃ H0 N Q, BCall P f H0 N vs Q ∧ (∀ q b, mkH H0 q = some b → st.heap q = some b) ∧ (∀ r, st.us r = true → r < N) ∧ ∀ H1 n' r, Q H1 n' r → K ((afterS st H0 H1 N n').put i.dst r)
def evFree (P : Program) (i : AI) (st : St) (K : St → Prop) (f : Nat) (vs : List AV) : Prop :=
  ∃ Q, ACall P f (vs.map (fzA st.heap)) Q ∧ ((okAs noF noF vs ∧ ∀ r, Q r → retK i st K r) ∨ (okAs (okB st.heap) (okQ st.heap) vs ∧ ∀ r, Q r → sc r = true ∧ retK i st K r))
def evCall (P : Program) (i : AI) (st : St) (K : St → Prop) (f : Nat) (vs : List AV) : Prop := evFree P i st K f vs ∨ evLend P i st K f vs
def isSl : AV → Bool
  | .sl .. | .hdr .. => true
  | _ => false
/-- An operation that is wanted. -/
def evOp (P : Program) (i : AI) (st : St) (K : St → Prop) : Prop :=
  match i.op with
  | .app sz bytes s x => st.ok s ∧ st.ok x ∧ ((appOk st i.k sz bytes (st.val s) (st.val x) ∧ K ((appS st i.k sz (st.val s) (st.val x)).put i.dst (appV st i.k (st.val s) (st.val x)))) ∨
      (intoOk st sz (st.val s) (st.val x) ∧ K ((intoS st (st.val s) (st.val x)).put i.dst (intoV st (st.val s) (st.val x)))))
  | .slm x l h m => slmOk st x l h m ∧ K (st.put i.dst .undef)
  | .clr sz ag z x => st.ok x ∧ clrOk st sz ag z (st.val x) ∧ K ((clrS st ag z (st.val x)).put i.dst (.tup []))
  | .store n agg a x => st.ok a ∧ st.ok x ∧ storeOk st n agg (st.val a) (st.val x) ∧ K ((storeS st (st.val a) (st.val x)).put i.dst .undef)
  | .eqz ng x => st.ok x ∧ isSl (st.val x) = true ∧ ∀ b, (0 < lenOf (st.val x) → b = false) → K (st.put i.dst (.bool (if ng then !b else b)))
  | .call f args => (∀ x ∈ args, st.ok x) ∧ evCall P i st K f (args.map st.val)
  | .callv x args => st.ok x ∧ (∀ y ∈ args, st.ok y) ∧ (match st.val x with | .fn f caps => evCall P i st K f (args.map st.val ++ caps) | .mfn f bnd => evCall P i st K f (bnd ++ args.map st.val) | _ => False)
  | op => pop st i.k op ∧ K ((st.make i.k (rop st op)).put i.dst (vop st i.k op))

section
variable {E : Env} {st : St} {a : Act} {w w' : World} {pl pl' : Pls} {fp : Nat → List Nat} {o : Oper} {k : Nat} {i : AI} {K : St → Prop} {Q : Exit → Act → World → Prop}

theorem vops_sound {aop : AOp} (hc : chkOp E.P o.op aop = true) (hR : RelW E st a w pl fp) (hp : pop st k aop) : Makes E st a w o (rop st aop) k (vop st k aop) := by
  unfold chkOp at hc
  split at hc
  · rename_i ho; exact (g_mov hR (.inl ho) hc hp).makes hR
  · rename_i ho; exact (g_mov hR (.inr ho) hc hp).makes hR
  · rename_i ho; simp only [Bool.and_eq_true] at hc; exact (g_pick hR ho hc.1.1 hc.1.2 hc.2 hp).makes hR
  · rename_i ho; simp only [Bool.and_eq_true, decide_eq_true_eq] at hc; obtain ⟨⟨rfl, h1⟩, h2⟩ := hc; exact (g_bin hR ho h1 h2 hp).makes hR
  · rename_i ho
    simp only [Bool.and_eq_true, decide_eq_true_eq] at hc
    obtain ⟨⟨⟨h0, h1⟩, h2⟩, h3⟩ := hc
    refine (g_eqb hR ho h0 ?_ h2 h3 hp).makes hR
    split at h1
    · assumption
    · cases h1
  · rename_i ho; simp only [Bool.and_eq_true, decide_eq_true_eq] at hc; exact (g_eqn hR ho hc.1.1 hc.1.2 hc.2 hp).makes hR
  · exact hp.elim
  · rename_i ho
    simp only [Bool.and_eq_true, decide_eq_true_eq, Bool.not_eq_true'] at hc
    obtain ⟨⟨⟨⟨⟨h0, h1⟩, h2⟩, h3⟩, h4⟩, h5⟩ := hc
    exact (g_eqs hR ho h0 h1 h2 h3 h4 h5 hp).makes hR
  · rename_i ho; exact (g_neg hR ho hc hp).makes hR
  · rename_i ho; exact (g_not hR ho hc hp).makes hR
  · rename_i ho; exact (g_com hR ho hc hp).makes hR
  · rename_i ho; simp only [Bool.and_eq_true] at hc; exact g_alloc hR ho hc.1 hc.2 hp
  · rename_i ho; exact g_box hR ho hc hp
  · rename_i ho
    simp only [Bool.and_eq_true] at hc
    obtain ⟨h1, h2⟩ := hc
    split at h2
    · rename_i fs hf
      simp only [Bool.and_eq_true, List.all_eq_true] at h2
      exact (g_build hR ho h1 hf h2.1 h2.2 hp).makes hR
    · cases h2
  · rename_i ho
    simp only [Bool.and_eq_true, decide_eq_true_eq] at hc
    obtain ⟨h1, h2⟩ := hc
    split at h1
    · rename_i e he
      simp only [Bool.and_eq_true] at h1
      exact g_bsl hR ho he h1.1.1 h1.1.2 h1.2 h2 hp
    · cases h1
  · rename_i ho; simp only [Bool.and_eq_true] at hc; exact (g_load hR ho hc.1.1 hc.1.2 hc.2 hp).makes hR
  · exact hp.elim
  · rename_i ho
    simp only [Bool.and_eq_true] at hc
    obtain ⟨h1, h2⟩ := hc
    split at h2
    · rename_i fs hf
      split at h2
      · rename_i fld hfl
        simp only [Bool.and_eq_true, decide_eq_true_eq, Bool.not_eq_true'] at h2
        exact (g_fad hR ho h1 hf hfl h2.1.1 h2.1.2 h2.2 hp).makes hR
      · cases h2
    · cases h2
  · rename_i ho
    simp only [Bool.and_eq_true] at hc
    obtain ⟨⟨h1, h2⟩, h3⟩ := hc
    split at h3
    · rename_i e he
      exact (g_iad hR ho h1 h2 he h3 hp).makes hR
    · cases h3
  · rename_i ho
    simp only [Bool.and_eq_true] at hc
    obtain ⟨h1, h2⟩ := hc
    split at h2
    · rename_i fs hf
      split at h2
      · rename_i fld hfl
        simp only [Bool.and_eq_true, decide_eq_true_eq] at h2
        exact (g_fld hR ho h1 hf hfl h2.1.1 h2.1.2 h2.2 hp).makes hR
      · cases h2
    · cases h2
  · rename_i ho
    simp only [Bool.and_eq_true] at hc
    obtain ⟨⟨h1, h2⟩, h3⟩ := hc
    split at h3
    · rename_i ht; exact (g_sidx hR ho h1 h2 ht hp).makes hR
    · cases h3
  · rename_i ho
    simp only [Bool.and_eq_true] at hc
    obtain ⟨⟨⟨⟨h1, h2⟩, h3⟩, h4⟩, h5⟩ := hc
    split at h5
    · rename_i e he; exact (g_slice hR ho h1 h2 h3 h4 he h5 hp).makes hR
    · cases h5
  · exact hp.elim
  · rename_i ho
    simp only [Bool.and_eq_true] at hc
    obtain ⟨⟨⟨h1, h2⟩, h3⟩, h4⟩ := hc
    split at h4
    · rename_i ht; exact (g_sslice hR ho h1 h2 h3 ht hp).makes hR
    · cases h4
  · rename_i ho
    simp only [Bool.and_eq_true] at hc
    obtain ⟨⟨h1, h2⟩, h3⟩ := hc
    split at h3
    · rename_i k' hk
      simp only [decide_eq_true_eq] at h3
      subst h3
      exact (g_conv hR ho (Option.isSome_iff_exists.1 h2) hk h1 hp).makes hR
    · cases h3
  · simp at hc
  · simp at hc
  · rename_i ho; simp only [Bool.and_eq_true, decide_eq_true_eq] at hc; obtain ⟨h1, rfl⟩ := hc; exact (g_ext hR ho h1 hp).makes hR
  · rename_i ho
    simp only [Bool.and_eq_true, decide_eq_true_eq, Array.isEmpty_iff] at hc
    obtain ⟨⟨rfl, rfl⟩, h1⟩ := hc
    exact (g_mkf hR ho h1 hp).makes hR
  · rename_i ho
    simp only [Bool.and_eq_true, decide_eq_true_eq, Array.isEmpty_iff] at hc
    obtain ⟨⟨rfl, rfl⟩, h1⟩ := hc
    exact (g_mkm hR ho h1 hp).makes hR
  · rename_i ho; exact (g_nilc hR ho hc hp).makes hR
  · rename_i c aop' ho
    unfold chkCall at hc
    split at hc
    · split at hc
      · rename_i y t h1 h2 h3
        simp only [Bool.and_eq_true] at hc
        refine (g_len hR ho h1 h2 h3 ?_ hc.1 hp).makes hR
        have h4 := hc.2
        split at h4
        · rename_i hs; exact .inl ⟨h4, hs⟩
        · rename_i e he; exact .inr ⟨by simpa using h4, _, he⟩
        · cases h4
      · cases hc
    · split at hc
      · rename_i h1; exact (g_mx hR ho h1 hc hp).makes hR
      · cases hc
    · split at hc
      · rename_i h1; exact (g_mn hR ho h1 hc hp).makes hR
      · cases hc
    · exact hp.elim
    · exact hp.elim
    · exact hp.elim
    · exact hp.elim
    · cases hc
  · cases hc

theorem below_of_keeps (h : Keeps (fun _ => False) w w') : Below w.heap.size w w' := ⟨h.os, h.tape, h.output, h.size, fun b hb => h.block b hb (fun h => h)⟩

theorem inv_own {O : Nat → Prop} {B sz : Nat} {xs : List AV} {v : Value} {fr : List Nat} (h : Vals w O B pl [.sl (.own sz) xs] [v] fr) : (xs = [] ∧ ∃ A, v = .slice A 0 0 ∧ fr = []) ∨
    ∃ b j cap cs fp1, RowAt w b ((j + cap) * sz) ∧ b < w.heap.size ∧ 0 < sz ∧ (∀ x ∈ xs, (cellsOf x).length = sz) ∧ (∀ x ∈ flat xs, x.one = true) ∧ xs.length ≤ cap ∧ Vals w O B noPl (flat xs) cs fp1 ∧ At w b (j * sz) cs ∧ v = .slice (some ⟨b, j * sz, none⟩) xs.length cap ∧ fr = b :: fp1 := by
  cases h with
  | owe t => cases t; exact .inl ⟨rfl, _, rfl, rfl⟩
  | ow hr hl hz hu ho hn hc ha t => cases t; exact .inr ⟨_, _, _, _, _, hr, hl, hz, hu, ho, hn, hc, ha, rfl, by simp⟩
  | sle hk _ _ => simp [SK.ro] at hk
  | slf hk _ _ _ _ _ _ _ _ _ _ => rcases hk with h | h <;> cases h

theorem ret_sound (hR : RelW E st a w pl fp) {X : Nat → Prop} {r : AV} {v : Value} {fr : List Nat} (hD : chkD E.n i.dst = true) (hv : Vals w' (fun b => X b ∨ b ∈ fr) 0 noPl [r] [v] fr) (hnd : fr.Nodup)
    (hnew : ∀ b ∈ fr, w.heap.size ≤ b ∧ b < w'.heap.size) (hk : Keeps (fun _ => False) w w') (hX : X = Own E st fp ∨ sc r = true) (h : retK i st K r) : ∃ st', K st' ∧ Rel E st' (a.put i.dst v) w' := by
  have hB := below_of_keeps hk
  have hfresh : ∀ b ∈ fr, ¬ Own E st fp b := fun b hb ho => by have := own_lt hR ho; have := (hnew b hb).1; omega
  unfold retK at h
  split at h
  · -- a root
    split at h
    · rename_i sz xs
      obtain ⟨hus, h0, hK⟩ := h
      refine ⟨_, hK, ?_⟩
      rcases inv_own hv with ⟨rfl, A, rfl, rfl⟩ | ⟨b, j, cap, cs, fp1, hr, hl, hz, hu, ho, hn, hc, ha, rfl, rfl⟩
      · have hroot := hR.root hB (r := st.nx + i.k) hus (blk := ⟨sz, false, []⟩) (p := ⟨none, 0, sz, 0⟩) (f := []) (by simp) (by simp) (.emp (j := 0) (by simp [plAdd]) rfl h0)
        exact ⟨_, _, hroot.put (.hdre (j := 0) (sz := sz) (by simp [plAdd]) .nil) _ hD⟩
      · have hO : ∀ b', b' < w'.heap.size → ¬ (X b' ∨ b' ∈ b :: fp1) → X = Own E st fp → ¬ Own E { st with heap := hupd st.heap (st.nx + i.k) (some ⟨sz, false, xs⟩), us := uupd st.us (st.nx + i.k) } (fpAdd fp (st.nx + i.k) (b :: fp1)) b' := by
          intro b' _ hn hX
          rintro (hx | ⟨q, hq, hbq⟩)
          · exact hn (.inl (hX ▸ .inl hx))
          · by_cases hqr : q = st.nx + i.k
            · subst hqr
              simp only [fpAdd, if_true] at hbq
              exact hn (.inr hbq)
            · refine hn (.inl (hX ▸ .inr ⟨q, ?_, ?_⟩))
              · simpa [hupd, hqr] using hq
              · simpa [fpAdd, hqr] using hbq
        have hc' : Vals w' (Own E { st with heap := hupd st.heap (st.nx + i.k) (some ⟨sz, false, xs⟩), us := uupd st.us (st.nx + i.k) } (fpAdd fp (st.nx + i.k) (b :: fp1))) E.w0.heap.size noPl (flat xs) cs fp1 := by
          rcases hX with hX | hX
          · exact hc.shift (fun _ _ _ => rfl) (Nat.le_refl _) (fun b' hb' hn => hO b' hb' hn hX) noPl (fun _ _ h => h)
          · exact sc_shift hc (scs_flat (by simpa [sc] using hX)) _
        have hroot := hR.root hB (r := st.nx + i.k) hus (blk := ⟨sz, false, xs⟩) (p := ⟨some b, j, sz, cap⟩) (f := b :: fp1) hnew hnd (.blk (b := b) (j := j) (cap := cap) (cs := cs) (by simp [plAdd]) hr hl hz hu ho hn (by simpa using hc') ha)
        refine ⟨_, _, hroot.put ?_ _ hD⟩
        have := Vals.hdr (w := w') (O := Own E { st with heap := hupd st.heap (st.nx + i.k) (some ⟨sz, false, xs⟩), us := uupd st.us (st.nx + i.k) } (fpAdd fp (st.nx + i.k) (b :: fp1))) (B := E.w0.heap.size) (pl := plAdd pl (st.nx + i.k) ⟨some b, j, sz, cap⟩) (r := st.nx + i.k) (off := 0) (len := xs.length) (b := b) (j := j) (sz := sz) (cap := cap) (A := some ⟨b, j * sz, none⟩)
          (by simp [plAdd]) (by omega) (.inl (by simp)) .nil
        simpa using this
    · exact h.elim
  · refine ⟨_, h, ?_⟩
    have hv2 : Vals w' (Own E st fp) E.w0.heap.size noPl [clC r] [v] [] := by
      have goal : ∀ O1, (∀ b, b < w'.heap.size → ¬ O1 b → ¬ Own E st fp b) → Vals w' O1 0 noPl [r] [v] fr → Vals w' (Own E st fp) E.w0.heap.size noPl [clC r] [v] [] := by
        intro O1 hO1 hv1
        have := map_vals (fh := nilF) (fq := nilF) (oh := noF) (oq := noF) (pl0 := noPl) (O' := Own E st fp) (B' := E.w0.heap.size) nilF_one nilF_one (fun _ _ _ _ h => h.elim) (fun _ _ _ _ h => h.elim) hO1 hv1 (.inr rfl) hfresh
        simpa [mapAs, clC] using this
      rcases hX with rfl | hX
      · exact goal _ (fun b _ hn ho => hn (.inl ho)) hv
      · exact goal (Own E st fp) (fun b _ hn => hn) (sc_shift hv (by simp [scs, hX]) noPl)
    exact ⟨_, _, (hR.ext hB).put (hv2.shift (fun _ _ _ => rfl) (Nat.le_refl _) (fun _ _ h => h) pl (fun r p h => by cases h)) _ hD⟩

theorem call_free (hR : RelW E st a w pl fp) {f : Nat} {vs : List AV} {us : List Value} {QQ : AV → Prop} (hd : o.dst = i.dst) (hD : chkD E.n i.dst = true) (hv : Vals w (Own E st fp) E.w0.heap.size pl vs us []) (hb : bodied E.P f = true)
    (hex : (execOp a.eval o).run E.P w = .ok (.enter f us.toArray) w) (hA : ∀ (w : World) (X : Nat → Prop) (us : List Value), (∀ b, X b → b < w.heap.size) → Vals w X 0 noPl (vs.map (fzA st.heap)) us [] → Calls E.P f us.toArray w (Back w X QQ))
    (hm : (okAs noF noF vs ∧ ∀ r, QQ r → retK i st K r) ∨ (okAs (okB st.heap) (okQ st.heap) vs ∧ ∀ r, QQ r → sc r = true ∧ retK i st K r)) : o.wp E.P a w (fun a' w' => ∃ st', K st' ∧ Rel E st' a' w') Q := by
  unfold Oper.wp
  rw [hex, Oper.upon_enter]
  rcases hm with ⟨hok, hK⟩ | ⟨hok, hK⟩
  · refine Calls.mono (hA w (Own E st fp) us (fun b hb => own_lt hR hb) (args_apart hR 0 hv hok)) fun e w' he => ?_
    cases e with
    | returned v =>
      obtain ⟨r, fr, h1, h2, h3, h4, h5⟩ := he
      rw [hd]
      exact ret_sound hR hD h2 h3 h4 h5 (.inl rfl) (hK r h1)
    | panicked c => exact he.elim
    | outgrown => exact he.elim
  · refine Calls.mono (hA w noO us (fun b hb => hb.elim) (args_frozen hR 0 hv hok)) fun e w' he => ?_
    cases e with
    | returned v =>
      obtain ⟨r, fr, h1, h2, h3, h4, h5⟩ := he
      rw [hd]
      exact ret_sound hR hD h2 h3 h4 h5 (.inr (hK r h1).1) (hK r h1).2
    | panicked c => exact he.elim
    | outgrown => exact he.elim

theorem call_sound (hR : RelW E st a w pl fp) {f : Nat} {vs : List AV} {us : List Value} (hd : o.dst = i.dst) (hD : chkD E.n i.dst = true) (hv : Vals w (Own E st fp) E.w0.heap.size pl vs us [])
    (hex : bodied E.P f = true → (execOp a.eval o).run E.P w = .ok (.enter f us.toArray) w) (h : evCall E.P i st K f vs) : o.wp E.P a w (fun a' w' => ∃ st', K st' ∧ Rel E st' a' w') Q := by
  rcases h with h | ⟨H0, N, QQ, hB, h2, h3, h4⟩
  · obtain ⟨QQ, ⟨hb, hA⟩, hm⟩ := h
    exact call_free hR hd hD hv hb (hex hb) hA hm
  · unfold Oper.wp
    rw [hex hB.1, Oper.upon_enter]
    refine Calls.mono (share_sound hR hB hv h2 h3) fun e w' he => ?_
    cases e with
    | returned v =>
      obtain ⟨H1, n', r, pl', fp', h5, h6, h7⟩ := he
      rw [hd]
      exact ⟨_, h4 H1 n' r h5, _, _, h6.put h7 _ hD⟩
    | panicked c => exact he.elim
    | outgrown => exact he.elim
end
end Go.Amb

set_option linter.unusedSimpArgs false
set_option linter.unusedVariables false
namespace Go.Amb
open Go Go.RowKit

/-- What a guard asks: it holds. -/
def gcond (st : St) (s : Nat) (b : Bool) : Bool :=
  match st.tmp s with
  | .grd g v => g && (boolOf v == b)
  | v => boolOf v == b
def gok (st : St) (s : Nat) : Prop :=
  match st.tmp s with
  | .grd g v => g = true → isBool v = true
  | v => isBool v = true
/-- Operations that leave all else alone. -/
def AOp.quiet : AOp → Bool
  | .app .. | .store .. | .eqz .. | .call .. | .callv .. | .alloc .. | .box .. | .clr .. | .slm .. => false
  | _ => true
def ev1 (P : Program) (i : AI) (st : St) (K : St → Prop) : Prop :=
  match i.g with
  | none => evOp P i st K
  | some (s, b) => gok st s ∧
    if i.op.quiet then (gcond st s b = true → pop st i.k i.op) ∧ K (st.put i.dst (.grd (gcond st s b) (vop st i.k i.op)))
    else (gcond st s b = true → evOp P i st K) ∧ (gcond st s b = false → K (st.put i.dst (.grd false .undef)))
/-- An operation under a guard that does not hold. -/
def evSkip (i : AI) (st : St) (K : St → Prop) : Prop :=
  match i.g with
  | none => False
  | some (s, b) => gok st s ∧ gcond st s b = false ∧ K (st.put i.dst (.grd false .undef))
def evIs (P : Program) : List AI → St → (St → Prop) → Prop
  | [], st, K => K st
  | i :: is, st, K => ev1 P i st (fun st' => evIs P is st' K) ∨ evSkip i st (fun st' => evIs P is st' K)

section
variable {E : Env} {st : St} {a : Act} {w w' : World} {pl pl' : Pls} {fp : Nat → List Nat} {o : Oper} {k : Nat} {i : AI} {K : St → Prop} {Q : Exit → Act → World → Prop}

theorem run_callFunc {P : Program} {f : Nat} {args : Array Value} (hb : bodied P f = true) (w : World) : (callFunc f args).run P w = .ok (.enter f args) w := by
  unfold bodied at hb
  split at hb
  · rename_i fn hf
    simp only [Bool.and_eq_true, bne_iff_ne, ne_eq] at hb
    have h1 : (fn.name == "runtime.NumGoroutine") = false := by simpa using hb.2
    have h2 : fn.body.isNone = false := by cases h : fn.body <;> simp_all
    simp only [callFunc, Sem.run_bind, run_program, Result.andThen_ok, hf, h1, h2, Bool.false_eq_true, if_false, Sem.run_pure]
  · cases hb

theorem execOp_callv {c : Call} {g f : Nat} {caps : Array Value} (ho : o.op = .call c) (hc : c.callee = .value (.tmp g)) (hg : a.eval (.tmp g) = .func (.func f) #[] caps) :
    execOp a.eval o = callFunc f (c.args.map a.eval ++ caps) := by
  simp only [execOp, ho, resolve, hc, hg, Deferred.ofValue]
  show callFunc f ((#[] ++ c.args.map a.eval) ++ caps) = _
  simp
theorem execOp_callm {c : Call} {g f : Nat} {bnd : Array Value} (ho : o.op = .call c) (hc : c.callee = .value (.tmp g)) (hg : a.eval (.tmp g) = .func (.func f) bnd #[]) :
    execOp a.eval o = callFunc f (bnd ++ c.args.map a.eval) := by
  simp only [execOp, ho, resolve, hc, hg, Deferred.ofValue]
  show callFunc f ((bnd ++ c.args.map a.eval) ++ #[]) = _
  simp
theorem execOp_callf {c : Call} {f : Nat} (ho : o.op = .call c) (hc : c.callee = .value (.func f)) : execOp a.eval o = callFunc f (c.args.map a.eval) := by
  simp only [execOp, ho, resolve, hc, Deferred.ofValue]
  show callFunc f ((#[] ++ c.args.map a.eval) ++ #[]) = _
  simp

theorem run_eqz {P : Program} {t e : TypeId} (ht : P.underlying t = some (.slice e)) (A : Option Addr) (n c : Nat) (w : World) :
    (binOp .eql t (.slice A n c) (.slice none 0 0)).run P w = .ok (.bool A.isNone) w ∧ (binOp .neq t (.slice A n c) (.slice none 0 0)).run P w = .ok (.bool (!A.isNone)) w := by
  have h : ∀ d, (Op.equalIn (d + 1) t (.slice A n c) (.slice none 0 0)).run P w = .ok A.isNone w := by
    intro d
    cases A <;> simp [Op.equalIn, run_underlying ht]
  have h' : (Op.equal t (.slice A n c) (.slice none 0 0)).run P w = .ok A.isNone w := h 9999
  constructor <;> simp [binOp, h']

theorem slice_some {O : Nat → Prop} {B : Nat} {v : AV} {u : Value} (hv : Vals w O B pl [v] [u] []) (hs : isSl v = true) : ∃ A n c, u = .slice A n c ∧ (0 < lenOf v → A.isNone = false) := by
  cases v <;> simp [isSl] at hs
  · rename_i K xs
    have key : ∀ (vs : List AV) (us : List Value) (f : List Nat), Vals w O B pl vs us f → vs = [.sl K xs] → us = [u] → ∃ A n c, u = .slice A n c ∧ (0 < lenOf (.sl K xs) → A.isNone = false) := by
      intro vs us f hv
      cases hv <;> intro e1 e2 <;> first | (cases e1; done) | skip
      all_goals (injection e1 with e1 _; injection e2 with e2 _; first | (cases e1; done) | skip)
      all_goals (injection e1; subst e2; subst_vars)
      · exact ⟨_, _, _, rfl, by simp [lenOf]⟩
      · exact ⟨_, _, _, rfl, by simp⟩
      · exact ⟨_, _, _, rfl, by simp⟩
      · exact ⟨_, _, _, rfl, by simp [lenOf]⟩
      · exact ⟨_, _, _, rfl, by simp⟩
    exact key _ _ _ hv rfl rfl
  · cases hv with
    | hdr h hn hA t =>
      cases t
      refine ⟨_, _, _, rfl, fun hl => ?_⟩
      rcases hA with rfl | hA
      · rfl
      · simp [lenOf] at hl; omega
    | hdre h t => cases t; exact ⟨_, _, _, rfl, by simp [lenOf]⟩

theorem chk_call {P : Program} {op : Op} {aop : AOp} (h : chkOp P op aop = true) (ha : (∃ f args, aop = .call f args) ∨ (∃ x args, aop = .callv x args) ∨ (∃ sz bytes s x, aop = .app sz bytes s x) ∨ ∃ sz ag z x, aop = .clr sz ag z x) : ∃ c, op = .call c ∧ chkCall P c aop = true := by
  rcases ha with ⟨f, args, rfl⟩ | ⟨x, args, rfl⟩ | ⟨sz, bytes, s, x, rfl⟩ | ⟨sz, ag, z, x, rfl⟩ <;> cases op <;> first | exact ⟨_, rfl, h⟩ | (simp [chkOp] at h; done)
theorem chk_store {P : Program} {op : Op} {n : Nat} {ag : Bool} {A x : AOpr} (h : chkOp P op (.store n ag A x) = true) : ∃ t b y, op = .store t b y ∧ chkX b A = true ∧ chkX y x = true ∧ szIs P t n = true ∧ aggIs P t ag = true := by
  cases op <;> first | (simp only [chkOp, Bool.and_eq_true] at h; exact ⟨_, _, _, rfl, h.1.1.1, h.1.1.2, h.1.2, h.2⟩) | (simp [chkOp, chkCall] at h; done)
theorem chk_slm {P : Program} {op : Op} {x l h m : AOpr} (hc : chkOp P op (.slm x l h m) = true) : ∃ t y l' h' m', op = .slice t y (some l') (some h') (some m') ∧ chkX y x = true ∧ chkX l' l = true ∧ chkX h' h = true ∧ chkX m' m = true ∧ ∃ e, elemIs P t = some e ∧ (P.info? e).isSome = true := by
  cases op <;> first | (simp [chkOp, chkCall] at hc; done) | skip
  rename_i t y lo hi mx
  cases lo <;> cases hi <;> cases mx <;> first | (simp [chkOp] at hc; done) | skip
  simp only [chkOp, Bool.and_eq_true] at hc
  obtain ⟨⟨⟨⟨c1, c2⟩, c3⟩, c4⟩, c5⟩ := hc
  cases he : elemIs P t with
  | none => simp [he] at c5
  | some e => exact ⟨_, _, _, _, _, rfl, c1, c2, c3, c4, e, he, by simpa [he] using c5⟩
theorem chk_eqz {P : Program} {op : Op} {ng : Bool} {x : AOpr} (h : chkOp P op (.eqz ng x) = true) : ∃ op' t y z t', op = .binOp op' t y z t' ∧ (op' = if ng then .neq else .eql) ∧ (elemIs P t).isSome = true ∧ z = .const (.slice none 0 0) ∧ chkX y x = true := by
  cases op <;> first | (simp [chkOp, chkCall] at h; done) | skip
  simp only [chkOp, Bool.and_eq_true, decide_eq_true_eq] at h
  refine ⟨_, _, _, _, _, rfl, h.1.1.1, h.1.1.2, ?_, h.2⟩
  have h2 := h.1.2
  split at h2
  · rfl
  · cases h2

theorem evOp_sound (hc : chkOp E.P o.op i.op = true) (hd : o.dst = i.dst) (hD : chkD E.n i.dst = true) (hR : Rel E st a w) (h : evOp E.P i st K) :
    o.wp E.P a w (fun a' w' => ∃ st', K st' ∧ Rel E st' a' w') Q := by
  obtain ⟨pl, fp, hR⟩ := hR
  have quiet : pop st i.k i.op ∧ K ((st.make i.k (rop st i.op)).put i.dst (vop st i.k i.op)) → o.wp E.P a w (fun a' w' => ∃ st', K st' ∧ Rel E st' a' w') Q := by
    rintro ⟨hp, hK⟩
    obtain ⟨u, w', pl', fp', hr, hR', hv⟩ := vops_sound (k := i.k) hc hR hp
    unfold Oper.wp
    rw [hr, Oper.upon_value, hd]
    exact ⟨_, hK, _, _, hR'.put hv _ hD⟩
  unfold evOp at h
  split at h
  · rename_i sz bytes s x hop
    rw [hop] at hc
    obtain ⟨h1, h2, h3⟩ := h
    obtain ⟨c, ho, hc⟩ := chk_call hc (.inr (.inr (.inl ⟨_, _, _, _, rfl⟩)))
    simp only [chkCall] at hc
    split at hc
    · rename_i y z t u hcal hargs htys
      simp only [Bool.and_eq_true] at hc
      obtain ⟨⟨⟨c1, c2⟩, c3⟩, c4⟩ := hc
      split at c3
      · rename_i e he
        simp only [Bool.and_eq_true, decide_eq_true_eq] at c3
        obtain ⟨⟨⟨c5, c6⟩, c7⟩, c8⟩ := c3
        have hu : ∃ e', E.P.underlying u = some (.slice e') := by
          split at c4
          · exact ⟨_, by assumption⟩
          · cases c4
        rcases h3 with ⟨h3, hK⟩ | ⟨h3, hK⟩
        · obtain ⟨v, w', pl', fp', hr, hR', hv⟩ := g_app (k := i.k) hR ho hcal hargs htys c1 c2 he c5 c6 c7 c8 hu h1 h2 h3
          unfold Oper.wp
          rw [hr, Oper.upon_value, hd]
          exact ⟨_, hK, _, _, hR'.put hv _ hD⟩
        · obtain ⟨v, w', pl', fp', hr, hR', hv⟩ := g_into hR ho hcal hargs htys c1 c2 he c5 c7 hu h1 h2 h3
          unfold Oper.wp
          rw [hr, Oper.upon_value, hd]
          exact ⟨_, hK, _, _, hR'.put hv _ hD⟩
      · cases c3
    · cases hc
  · rename_i x l h m hop
    rw [hop] at hc
    obtain ⟨h1, hK⟩ := h
    obtain ⟨t, y, l', h', m', ho, c1, c2, c3, c4, e, he, hi⟩ := chk_slm hc
    obtain ⟨u, hr⟩ := g_slm hR ho c1 c2 c3 c4 he hi h1
    unfold Oper.wp
    rw [hr, Oper.upon_value, hd]
    exact ⟨_, hK, _, _, hR.skip _ hD _⟩
  · rename_i sz ag z x hop
    rw [hop] at hc
    obtain ⟨h1, h2, hK⟩ := h
    obtain ⟨c, ho, hc⟩ := chk_call hc (.inr (.inr (.inr ⟨_, _, _, _, rfl⟩)))
    simp only [chkCall] at hc
    split at hc
    · rename_i y t hcal hargs htys
      simp only [Bool.and_eq_true] at hc
      obtain ⟨c1, c2⟩ := hc
      split at c2
      · rename_i e he
        simp only [Bool.and_eq_true, decide_eq_true_eq] at c2
        obtain ⟨⟨c3, c4⟩, c5⟩ := c2
        obtain ⟨w', fp', hr, hR'⟩ := g_clr hR ho hcal hargs htys c1 he c3 c4 c5 h1 h2
        unfold Oper.wp
        rw [hr, Oper.upon_value, hd]
        exact ⟨_, hK, _, _, hR'.put (.tup .nil .nil) _ hD⟩
      · cases c2
    · cases hc
  · rename_i n ag A x hop
    rw [hop] at hc
    obtain ⟨h1, h2, h3, hK⟩ := h
    obtain ⟨t, b, y, ho, c1, c2, c3, c4⟩ := chk_store hc
    obtain ⟨w', pl', fp', hr, hR'⟩ := g_store hR ho c1 c2 c3 c4 h1 h2 h3
    unfold Oper.wp
    rw [hr, Oper.upon_skip, hd]
    exact ⟨_, hK, _, _, hR'.skip _ hD _⟩
  · rename_i ng x hop
    rw [hop] at hc
    obtain ⟨h1, h2, hK⟩ := h
    obtain ⟨op', t, y, z, t', ho, he, hel, rfl, hx⟩ := chk_eqz hc
    obtain ⟨e, hel⟩ := Option.isSome_iff_exists.1 hel
    obtain ⟨A, n, c, hu, hl⟩ := slice_some (opr_sound hR hx h1) h2
    have hg : (eqGuard op' t y (.const (.slice none 0 0)) (.slice A n c) (.slice none 0 0)).run E.P w = .ok () w := eqGuard_not (.inl (by simp)) (by simp) _ _
    have hz := run_eqz (elemIs_eq hel) A n c w
    have hr : (execOp a.eval o).run E.P w = .ok (.value (.bool (if ng then !A.isNone else A.isNone))) w := by
      have hcst : a.eval (.const (.slice none 0 0)) = .slice none 0 0 := rfl
      cases ng
      · simp only [Bool.false_eq_true, if_false] at he; subst he
        simp [execOp, ho, hu, hcst, hg, hz.1]
      · simp only [if_true] at he; subst he
        simp [execOp, ho, hu, hcst, hg, hz.2]
    unfold Oper.wp
    rw [hr, Oper.upon_value, hd]
    exact ⟨_, hK _ hl, _, _, hR.put (.bool .nil) _ hD⟩
  · rename_i f args hop
    rw [hop] at hc
    obtain ⟨h1, h2⟩ := h
    obtain ⟨c, ho, hc⟩ := chk_call hc (.inl ⟨_, _, rfl⟩)
    simp only [chkCall] at hc
    split at hc
    · rename_i g hcal
      simp only [Bool.and_eq_true, decide_eq_true_eq] at hc
      obtain ⟨⟨rfl, c1⟩, c2⟩ := hc
      have hv := oprs_sound hR _ _ c1 h1
      refine call_sound hR hd hD hv (fun hb => ?_) h2
      rw [execOp_callf ho hcal, show c.args.map a.eval = (c.args.toList.map a.eval).toArray by apply Array.ext'; simp]
      exact run_callFunc hb w
    · cases hc
  · rename_i x args hop
    rw [hop] at hc
    obtain ⟨h1, h2, h3⟩ := h
    obtain ⟨c, ho, hc⟩ := chk_call hc (.inr (.inl ⟨_, _, rfl⟩))
    simp only [chkCall] at hc
    split at hc
    · rename_i g hcal
      simp only [Bool.and_eq_true] at hc
      have hvx := opr_sound hR hc.1 h1
      split at h3
      · rename_i f caps e
        rw [e] at hvx
        obtain ⟨us1, hu1, hcaps⟩ : ∃ us1, a.eval (.tmp g) = .func (.func f) #[] us1.toArray ∧ Vals w (Own E st fp) E.w0.heap.size pl caps us1 [] := by
          generalize a.eval (.tmp g) = u at hvx
          cases hvx with
          | fn hc t => exact ⟨_, rfl, hc⟩
        have hv := (oprs_sound hR _ _ hc.2 h2).append hcaps
        refine call_sound hR hd hD hv (fun hb => ?_) h3
        rw [execOp_callv ho hcal hu1, show c.args.map a.eval ++ us1.toArray = (c.args.toList.map a.eval ++ us1).toArray by apply Array.ext'; simp]
        exact run_callFunc hb w
      · rename_i f bnd e
        rw [e] at hvx
        obtain ⟨us1, hu1, hcaps⟩ : ∃ us1, a.eval (.tmp g) = .func (.func f) us1.toArray #[] ∧ Vals w (Own E st fp) E.w0.heap.size pl bnd us1 [] := by
          generalize a.eval (.tmp g) = u at hvx
          cases hvx with
          | mfn hc t => exact ⟨_, rfl, hc⟩
        have hv := hcaps.append (oprs_sound hR _ _ hc.2 h2)
        refine call_sound hR hd hD hv (fun hb => ?_) h3
        rw [execOp_callm ho hcal hu1, show us1.toArray ++ c.args.map a.eval = (us1 ++ c.args.toList.map a.eval).toArray by apply Array.ext'; simp]
        exact run_callFunc hb w
      · exact h3.elim
    · cases hc
  · exact quiet h
end
end Go.Amb

set_option linter.unusedSimpArgs false
set_option linter.unusedVariables false
namespace Go.Amb
open Go Go.RowKit

section
variable {E : Env} {st : St} {a : Act} {w w' : World} {pl pl' : Pls} {fp : Nat → List Nat} {o : Oper} {k : Nat} {i : AI} {K : St → Prop} {Q : Exit → Act → World → Prop} {ops : Array Oper}

def boolIn : Value → Option Bool
  | .bool b => some b
  | _ => none
theorem yielded_eq {j s : Nat} {u : Value} {tmps : Array Value} (hs : (ops[j]?).bind (·.dst) = some s) (hu : tmps[s]? = some u) : yielded ops tmps j = boolIn u := by
  unfold yielded
  rw [hs]
  simp only [Option.bind_some, hu]
  cases u <;> rfl

theorem guard_sound (hR : RelW E st a w pl fp) {j s : Nat} {b : Bool} (hg : o.guard = some (j, b)) (hs : (ops[j]?).bind (·.dst) = some s) (hk : gok st s) : Region.wanted o (yielded ops a.tmps) = gcond st s b := by
  have hne : st.tmp s ≠ .undef := by
    intro e
    unfold gok at hk
    rw [e] at hk
    simp [isBool] at hk
  obtain ⟨u, hu, hv⟩ := hR.tmps s hne
  unfold Region.wanted
  rw [hg]
  simp only [yielded_eq hs hu]
  unfold gok at hk
  unfold gcond
  revert hk hv
  generalize st.tmp s = T
  intro hk hv
  cases T with
  | grd g v =>
    simp only at hk
    cases hv with
    | grd hc hun t =>
      cases g with
      | true =>
        obtain ⟨c, rfl, rfl⟩ := inv_isBool (hc rfl) (hk rfl)
        simp [boolOf, boolIn]
      | false =>
        rw [hun rfl]
        rfl
  | bool c =>
    obtain ⟨rfl, _⟩ := inv_bool hv
    simp [boolOf, boolIn]
  | _ => simp [isBool] at hk

theorem ev1_sound {j : Nat} (hj : ops[j]? = some o) (hc : chkI E.P E.n ops o i = true) (hR : Rel E st a w) (h : ev1 E.P i st K) : wpOp E.P ops Q j (fun a' w' => ∃ st', K st' ∧ Rel E st' a' w') a w := by
  simp only [chkI, Bool.and_eq_true, beq_iff_eq] at hc
  obtain ⟨⟨⟨hop, hd⟩, hD⟩, hG⟩ := hc
  unfold wpOp
  rw [hj]
  simp only
  unfold ev1 at h
  cases hg : i.g with
  | none =>
    rw [hg] at h hG
    have hog : o.guard = none := by
      cases hx : o.guard with
      | none => rfl
      | some p => rw [hx] at hG; simp [chkG] at hG
    have hw : Region.wanted o (yielded ops a.tmps) = true := by simp [Region.wanted, hog]
    rw [if_pos hw]
    exact .inl (evOp_sound hop hd hD hR h)
  | some p =>
    obtain ⟨s, b⟩ := p
    rw [hg] at h hG
    obtain ⟨hk, h⟩ := h
    obtain ⟨pl, fp, hR⟩ := hR
    obtain ⟨j', hog, hs⟩ : ∃ j', o.guard = some (j', b) ∧ (ops[j']?).bind (·.dst) = some s := by
      cases hx : o.guard with
      | none => rw [hx] at hG; simp [chkG] at hG
      | some q =>
        obtain ⟨j', b'⟩ := q
        rw [hx] at hG
        simp only [chkG, Bool.and_eq_true, beq_iff_eq] at hG
        obtain ⟨rfl, hs⟩ := hG
        exact ⟨j', rfl, hs⟩
    have hw := guard_sound hR hog hs hk
    rw [hw]
    split at h
    · rename_i hq
      obtain ⟨hp, hK⟩ := h
      by_cases hcnd : gcond st s b = true
      · rw [if_pos hcnd]
        obtain ⟨u, w', pl', fp', hr, hR', hv⟩ := vops_sound (k := i.k) hop hR (hp hcnd)
        have hrop : rop st i.op = none := by
          revert hq
          generalize i.op = aop
          intro hq
          cases aop <;> first | rfl | (simp [AOp.quiet] at hq; done)
        rw [hrop] at hR' hv
        refine .inl ?_
        unfold Oper.wp
        rw [hr, Oper.upon_value, hd]
        exact ⟨_, hK, _, _, hR'.putg _ (fun _ => hv) (fun h => by rw [hcnd] at h; cases h) _ hD⟩
      · rw [if_neg hcnd, hd]
        exact ⟨_, hK, _, _, hR.putg _ (fun h => absurd h hcnd) (fun _ => rfl) _ hD⟩
    · by_cases hcnd : gcond st s b = true
      · rw [if_pos hcnd]
        exact .inl (evOp_sound hop hd hD ⟨pl, fp, hR⟩ (h.1 hcnd))
      · rw [if_neg hcnd, hd]
        exact ⟨_, h.2 (by simpa using hcnd), _, _, hR.putg false (fun h => by cases h) (fun _ => rfl) _ hD⟩

theorem evSkip_sound {j : Nat} (hj : ops[j]? = some o) (hc : chkI E.P E.n ops o i = true) (hR : Rel E st a w) (h : evSkip i st K) : wpOp E.P ops Q j (fun a' w' => ∃ st', K st' ∧ Rel E st' a' w') a w := by
  simp only [chkI, Bool.and_eq_true, beq_iff_eq] at hc
  obtain ⟨⟨⟨hop, hd⟩, hD⟩, hG⟩ := hc
  unfold wpOp
  rw [hj]
  simp only
  unfold evSkip at h
  cases hg : i.g with
  | none => rw [hg] at h; exact h.elim
  | some p =>
    obtain ⟨s, b⟩ := p
    rw [hg] at h hG
    obtain ⟨hk, hcf, hK⟩ := h
    obtain ⟨pl, fp, hR⟩ := hR
    obtain ⟨j', hog, hs⟩ : ∃ j', o.guard = some (j', b) ∧ (ops[j']?).bind (·.dst) = some s := by
      cases hx : o.guard with
      | none => rw [hx] at hG; simp [chkG] at hG
      | some q =>
        obtain ⟨j', b'⟩ := q
        rw [hx] at hG
        simp only [chkG, Bool.and_eq_true, beq_iff_eq] at hG
        obtain ⟨rfl, hs⟩ := hG
        exact ⟨j', rfl, hs⟩
    rw [guard_sound hR hog hs hk, if_neg (by simp [hcf]), hd]
    exact ⟨_, hK, _, _, hR.putg false (fun h => by cases h) (fun _ => rfl) _ hD⟩

theorem evIs_sound' : ∀ (os : List Oper) (is : List AI) (n : Nat) (st : St) (a : Act) (w : World), chkIs E.P E.n ops os is = true → (∀ m o, os[m]? = some o → ops[n + m]? = some o) → Rel E st a w → evIs E.P is st K →
    (∀ st' a' w', K st' → Rel E st' a' w' → Q .normal a' w') → wpOps E.P ops Q ((List.range os.length).map (n + ·)) a w
  | [], [], n, st, a, w, _, _, hR, h, hq => hq _ _ _ h hR
  | o :: os, i :: is, n, st, a, w, hc, ho, hR, h, hq => by
    simp only [chkIs, Bool.and_eq_true] at hc
    rw [List.length_cons, List.range_succ_eq_map, List.map_cons, List.map_map, wpOps_cons]
    have h1 := h.elim (fun h => ev1_sound (Q := Q) (j := n + 0) (ho 0 o rfl) hc.1 hR h) (fun h => evSkip_sound (Q := Q) (j := n + 0) (ho 0 o rfl) hc.1 hR h)
    refine wpOp_mono (fun a' w' hk => ?_) h1
    obtain ⟨st', h2, hR'⟩ := hk
    have := evIs_sound' os is (n + 1) st' a' w' hc.2 (fun m o' hm => by have := ho (m + 1) o' (by simpa using hm); rw [show n + 1 + m = n + (m + 1) by omega]; exact this) hR' h2 hq
    have e : ((fun x => n + x) ∘ Nat.succ) = fun x => (n + 1) + x := by funext x; simp only [Function.comp]; omega
    rw [e]
    exact this
  | [], _ :: _, _, _, _, _, hc, _, _, _, _ => by simp [chkIs] at hc
  | _ :: _, [], _, _, _, _, hc, _, _, _, _ => by simp [chkIs] at hc

theorem region_sound {id : Nat} {is : List AI} (hc : chkIs E.P E.n ops ops.toList is = true) (hR : Rel E st a w) (h : evIs E.P is st K) (hq : ∀ st' a' w', K st' → Rel E st' a' w' → Q .normal a' w') :
    (Code.region id ops false).wp E.P Q a w := by
  refine wp_region ?_
  have := evIs_sound' (Q := Q) (K := K) ops.toList is 0 st a w hc (fun m o hm => by simpa using hm) hR h hq
  simpa using this
end
end Go.Amb

set_option linter.unusedSimpArgs false
set_option linter.unusedVariables false
namespace Go.Amb
open Go Go.RowKit

def AOpr.slots : AOpr → List Nat
  | .t n => [n]
  | .c _ => []
def oslots : Option AOpr → List Nat
  | some x => x.slots
  | none => []
def AOp.slots : AOp → List Nat
  | .mov x | .eqn _ _ x | .eqz _ x | .neg x | .not x | .com x | .box _ _ x | .load _ _ x | .fad _ x | .fld _ _ _ x | .len _ x | .conv _ x | .b2s x | .s2b x | .ext x _ | .nilc x | .clr _ _ _ x => x.slots
  | .pick c a b => c.slots ++ (a.slots ++ b.slots)
  | .bin _ x y | .eqb _ x y | .eqs _ _ x y | .store _ _ x y | .iad _ x y | .sidx x y | .app _ _ x y => x.slots ++ y.slots
  | .alloc .. => []
  | .build _ ps => ps.flatMap fun p => p.2.2.slots
  | .bsl _ _ _ _ ps => ps.flatMap fun p => p.2.slots
  | .slice _ x l h m => x.slots ++ (oslots l ++ (oslots h ++ oslots m))
  | .sslice x l h => x.slots ++ (oslots l ++ oslots h)
  | .slm x l h m => x.slots ++ (l.slots ++ (h.slots ++ m.slots))
  | .mx l | .mn l => l.flatMap AOpr.slots
  | .call _ args => args.flatMap AOpr.slots
  | .callv x args => x.slots ++ args.flatMap AOpr.slots
  | .mkf _ caps => caps.flatMap AOpr.slots
  | .mkm _ caps => caps.flatMap AOpr.slots
def AI.looks (i : AI) : List Nat := i.op.slots ++ (match i.g with | some (s, _) => [s] | none => [])
/-- Reads memory. -/
def AOp.reads : AOp → Bool
  | .load .. | .iad .. | .slice .. | .b2s .. => true
  | _ => false

section
variable {st : St} {d : Nat} {v : AV} {k : Nat}
theorem val_put {x : AOpr} (h : d ∉ x.slots) : (st.put (some d) v).val x = st.val x := by
  cases x with
  | t n => simp only [AOpr.slots, List.mem_singleton] at h; simp [St.val, St.put, tupd, Ne.symm h]
  | c c => rfl
theorem ok_put {x : AOpr} (h : d ∉ x.slots) : (st.put (some d) v).ok x = st.ok x := by
  cases x with
  | t n => simp only [AOpr.slots, List.mem_singleton] at h; simp [St.ok, St.put, tupd, Ne.symm h]
  | c c => rfl
theorem map_put {l : List AOpr} (h : d ∉ l.flatMap AOpr.slots) : l.map (st.put (some d) v).val = l.map st.val := by
  refine List.map_congr_left fun x hx => val_put fun hd => h (List.mem_flatMap.2 ⟨x, hx, hd⟩)
theorem all_put {l : List AOpr} (h : d ∉ l.flatMap AOpr.slots) : (∀ x ∈ l, (st.put (some d) v).ok x) ↔ ∀ x ∈ l, st.ok x := by
  refine forall_congr' fun x => forall_congr' fun hx => ?_
  rw [ok_put fun hd => h (List.mem_flatMap.2 ⟨x, hx, hd⟩)]
theorem lo_put {x : Option AOpr} (h : d ∉ oslots x) : lo' (st.put (some d) v) x = lo' st x := by
  cases x with
  | none => rfl
  | some x => simp only [lo', val_put h]
theorem hi_put {x : Option AOpr} {n : Nat} (h : d ∉ oslots x) : hi' (st.put (some d) v) n x = hi' st n x := by
  cases x with
  | none => rfl
  | some x => simp only [hi', val_put h]
theorem bound_put {x : Option AOpr} {m n : Nat} (h : d ∉ oslots x) : boundOk (st.put (some d) v) m n x = boundOk st m n x := by
  cases x with
  | none => rfl
  | some x => simp only [boundOk, val_put h, ok_put h]
theorem blk_put {dd : Option Nat} {r : Nat} : (st.put dd v).blk r = st.blk r := by cases dd <;> rfl
theorem heap_put {dd : Option Nat} : (st.put dd v).heap = st.heap := by cases dd <;> rfl
theorem us_put {dd : Option Nat} : (st.put dd v).us = st.us := by cases dd <;> rfl
theorem nx_put {dd : Option Nat} : (st.put dd v).nx = st.nx := by cases dd <;> rfl
theorem there_put {dd : Option Nat} {A : AV} : (st.put dd v).there A = st.there A := by cases dd <;> cases A <;> rfl
theorem thereOk_put {dd : Option Nat} {A : AV} {n : Nat} : (st.put dd v).thereOk n A = st.thereOk n A := by cases dd <;> cases A <;> rfl

theorem vop_put {op : AOp} (h : d ∉ op.slots) : vop (st.put (some d) v) k op = vop st k op := by
  cases op <;> simp only [AOp.slots, List.mem_append, not_or] at h <;> simp only [vop, blk_put, there_put, nx_put]
  case mov => rw [val_put h]
  case eqn => rw [val_put h]
  case neg => rw [val_put h]
  case not => rw [val_put h]
  case com => rw [val_put h]
  case load => rw [val_put h]
  case fad => rw [val_put h]
  case fld => rw [val_put h]
  case len => rw [val_put h]
  case conv => rw [val_put h]
  case b2s => rw [val_put h]
  case s2b => rw [val_put h]
  case ext => rw [val_put h]
  case nilc => rw [val_put h]
  case pick => rw [val_put h.1, val_put h.2.1, val_put h.2.2]
  case bin => rw [val_put h.1, val_put h.2]
  case eqb => rw [val_put h.1, val_put h.2]
  case eqs => rw [val_put h.1, val_put h.2]
  case iad => rw [val_put h.1, val_put h.2]
  case sidx => rw [val_put h.1, val_put h.2]
  case slice => rw [val_put h.1, lo_put h.2.1]; simp only [hi_put h.2.2.1]
  case sslice => rw [val_put h.1, lo_put h.2.1]; simp only [hi_put h.2.2]
  case mx => rw [map_put h]
  case mn => rw [map_put h]
  case mkf => rw [map_put h]
  case mkm => rw [map_put h]
  case build z ps =>
    congr 2
    refine List.map_congr_left fun p hp => ?_
    obtain ⟨o, n, x⟩ := p
    simp only [val_put (fun hd => h (List.mem_flatMap.2 ⟨_, hp, hd⟩))]
  case bsl sz ag n z ps =>
    congr 2
    refine List.map_congr_left fun p hp => ?_
    obtain ⟨i, x⟩ := p
    simp only [val_put (fun hd => h (List.mem_flatMap.2 ⟨_, hp, hd⟩))]

theorem pop_put {op : AOp} (h : d ∉ op.slots) : pop (st.put (some d) v) k op ↔ pop st k op := by
  cases op <;> simp only [AOp.slots, List.mem_append, not_or] at h <;> simp only [pop, blk_put, there_put, thereOk_put, nx_put, us_put, heap_put]
  case mov => rw [ok_put h]
  case eqn => rw [val_put h, ok_put h]
  case neg => rw [val_put h, ok_put h]
  case not => rw [val_put h, ok_put h]
  case com => rw [val_put h, ok_put h]
  case box => rw [val_put h, ok_put h]
  case load => rw [val_put h, ok_put h]
  case fad => rw [val_put h, ok_put h]
  case fld => rw [val_put h, ok_put h]
  case len => rw [val_put h, ok_put h]
  case conv => rw [val_put h, ok_put h]
  case b2s => rw [val_put h, ok_put h]
  case s2b => rw [val_put h, ok_put h]
  case ext => rw [val_put h, ok_put h]
  case nilc => rw [val_put h, ok_put h]
  case pick => rw [val_put h.1, val_put h.2.1, val_put h.2.2, ok_put h.1, ok_put h.2.1, ok_put h.2.2]
  case bin => rw [val_put h.1, val_put h.2, ok_put h.1, ok_put h.2]
  case eqb => rw [val_put h.1, val_put h.2, ok_put h.1, ok_put h.2]
  case eqs => rw [val_put h.1, val_put h.2, ok_put h.1, ok_put h.2]
  case iad => rw [val_put h.1, val_put h.2, ok_put h.1, ok_put h.2]
  case sidx => rw [val_put h.1, val_put h.2, ok_put h.1, ok_put h.2]
  case slice => rw [val_put h.1, ok_put h.1]; simp only [hi_put h.2.2.1, bound_put h.2.1, bound_put h.2.2.1]
  case sslice => rw [val_put h.1, ok_put h.1]; simp only [hi_put h.2.2, bound_put h.2.1, bound_put h.2.2]
  case mx =>
    refine and_congr_left fun _ => forall_congr' fun x => forall_congr' fun hx => ?_
    rw [val_put (fun hd => h (List.mem_flatMap.2 ⟨x, hx, hd⟩)), ok_put (fun hd => h (List.mem_flatMap.2 ⟨x, hx, hd⟩))]
  case mn =>
    refine and_congr_left fun _ => forall_congr' fun x => forall_congr' fun hx => ?_
    rw [val_put (fun hd => h (List.mem_flatMap.2 ⟨x, hx, hd⟩)), ok_put (fun hd => h (List.mem_flatMap.2 ⟨x, hx, hd⟩))]
  case mkf =>
    refine forall_congr' fun x => forall_congr' fun hx => ?_
    rw [val_put (fun hd => h (List.mem_flatMap.2 ⟨x, hx, hd⟩)), ok_put (fun hd => h (List.mem_flatMap.2 ⟨x, hx, hd⟩))]
  case mkm =>
    refine forall_congr' fun x => forall_congr' fun hx => ?_
    rw [val_put (fun hd => h (List.mem_flatMap.2 ⟨x, hx, hd⟩)), ok_put (fun hd => h (List.mem_flatMap.2 ⟨x, hx, hd⟩))]
  case build z ps =>
    refine forall_congr' fun x => forall_congr' fun hx => ?_
    rw [val_put (fun hd => h (List.mem_flatMap.2 ⟨x, hx, hd⟩)), ok_put (fun hd => h (List.mem_flatMap.2 ⟨x, hx, hd⟩))]
  case bsl sz ag n z ps =>
    refine and_congr_right fun _ => and_congr_right fun _ => and_congr_right fun _ => and_congr_left fun _ => forall_congr' fun x => forall_congr' fun hx => ?_
    rw [val_put (fun hd => h (List.mem_flatMap.2 ⟨x, hx, hd⟩)), ok_put (fun hd => h (List.mem_flatMap.2 ⟨x, hx, hd⟩))]

/-- An operation that does not read memory. -/
theorem vop_heap {op : AOp} {h : Nat → Option Blk} {u : Nat → Bool} (hr : op.reads = false) : vop { st with heap := h, us := u } k op = vop st k op := by
  cases op <;> first | (simp [AOp.reads] at hr; done) | rfl
theorem pop_heap {op : AOp} {h : Nat → Option Blk} {u : Nat → Bool} (hr : op.reads = false) (hq : op.quiet = true) : pop { st with heap := h, us := u } k op ↔ pop st k op := by
  cases op <;> first | (simp [AOp.reads, AOp.quiet] at hr hq; done) | exact Iff.rfl
end
end Go.Amb

set_option linter.unusedSimpArgs false
set_option linter.unusedVariables false
namespace Go.Amb
open Go Go.RowKit

/-- A quiet operation: its value, what it asks. -/
def val1 (i : AI) (st : St) : AV :=
  match i.g with
  | none => vop st i.k i.op
  | some (s, b) => .grd (gcond st s b) (vop st i.k i.op)
def ok1 (i : AI) (st : St) : Prop :=
  match i.g with
  | none => pop st i.k i.op
  | some (s, b) => gok st s ∧ (gcond st s b = true → pop st i.k i.op)
/-- All that an operation may turn: its slot, memory. -/
def Reach (j : AI) (st s : St) : Prop := ∃ h u v, s = ({ st with heap := h, us := u } : St).put j.dst v ∧ (j.op.quiet = true → h = st.heap ∧ u = st.us)

section
variable {P : Program} {st : St} {i j : AI} {K K' : St → Prop} {d : Nat} {v : AV}

theorem make_none (k : Nat) : st.make k none = st := rfl
theorem ev1_quiet (hq : i.op.quiet = true) : ev1 P i st K ↔ ok1 i st ∧ K (st.put i.dst (val1 i st)) := by
  have h0 : evOp P i st K ↔ pop st i.k i.op ∧ K (st.put i.dst (vop st i.k i.op)) := by
    unfold evOp
    revert hq
    cases i.op <;> intro hq <;> first | exact Iff.rfl | (simp [AOp.quiet] at hq; done)
  unfold ev1 ok1 val1
  cases hg : i.g with
  | none => exact h0
  | some p =>
    obtain ⟨s, b⟩ := p
    simp only [hq, if_true, and_assoc]

theorem retK_mono (h : ∀ s, K s → K' s) {r : AV} (hr : retK i st K r) : retK i st K' r := by
  unfold retK at *
  split
  · rename_i ha
    rw [if_pos ha] at hr
    split at hr
    · exact ⟨hr.1, hr.2.1, h _ hr.2.2⟩
    · exact hr.elim
  · rename_i ha
    rw [if_neg ha] at hr
    exact h _ hr
theorem evCall_mono (h : ∀ s, K s → K' s) {f : Nat} {vs : List AV} (hr : evCall P i st K f vs) : evCall P i st K' f vs := by
  rcases hr with ⟨Q, h1, h2⟩ | ⟨H0, N, Q, h1, h2, h3, h4⟩
  · exact .inl ⟨Q, h1, h2.imp (fun h2 => ⟨h2.1, fun r hr => retK_mono h (h2.2 r hr)⟩) (fun h2 => ⟨h2.1, fun r hr => ⟨(h2.2 r hr).1, retK_mono h (h2.2 r hr).2⟩⟩)⟩
  · exact .inr ⟨H0, N, Q, h1, h2, h3, fun H1 n' r hq => h _ (h4 H1 n' r hq)⟩
theorem evOp_mono (h : ∀ s, K s → K' s) (hr : evOp P i st K) : evOp P i st K' := by
  unfold evOp at *
  split at hr
  · exact ⟨hr.1, hr.2.1, hr.2.2.imp (fun x => ⟨x.1, h _ x.2⟩) (fun x => ⟨x.1, h _ x.2⟩)⟩
  · exact ⟨hr.1, h _ hr.2⟩
  · exact ⟨hr.1, hr.2.1, h _ hr.2.2⟩
  · exact ⟨hr.1, hr.2.1, hr.2.2.1, h _ hr.2.2.2⟩
  · exact ⟨hr.1, hr.2.1, fun b hb => h _ (hr.2.2 b hb)⟩
  · exact ⟨hr.1, evCall_mono h hr.2⟩
  · refine ⟨hr.1, hr.2.1, ?_⟩
    have := hr.2.2
    split at this
    · exact evCall_mono h this
    · exact evCall_mono h this
    · exact this.elim
  · exact ⟨hr.1, h _ hr.2⟩
theorem ev1_mono (h : ∀ s, K s → K' s) (hr : ev1 P i st K) : ev1 P i st K' := by
  unfold ev1 at *
  split at hr
  · exact evOp_mono h hr
  · refine ⟨hr.1, ?_⟩
    have h2 := hr.2
    by_cases hq : i.op.quiet = true
    · rw [if_pos hq] at h2 ⊢; exact ⟨h2.1, h _ h2.2⟩
    · rw [if_neg hq] at h2 ⊢; exact ⟨fun hc => evOp_mono h (h2.1 hc), fun hc => h _ (h2.2 hc)⟩

theorem retK_reach (hq : i.op.quiet = false) {r : AV} (hr : retK i st K r) : retK i st (fun s => Reach i st s ∧ K s) r := by
  unfold retK at *
  split
  · rename_i ha
    rw [if_pos ha] at hr
    split at hr
    · exact ⟨hr.1, hr.2.1, ⟨_, _, _, rfl, by simp [hq]⟩, hr.2.2⟩
    · exact hr.elim
  · rename_i ha
    rw [if_neg ha] at hr
    exact ⟨⟨st.heap, st.us, _, rfl, by simp [hq]⟩, hr⟩
theorem evCall_reach (hq : i.op.quiet = false) {f : Nat} {vs : List AV} (hr : evCall P i st K f vs) : evCall P i st (fun s => Reach i st s ∧ K s) f vs := by
  rcases hr with ⟨Q, h1, h2⟩ | ⟨H0, N, Q, h1, h2, h3, h4⟩
  · exact .inl ⟨Q, h1, h2.imp (fun h2 => ⟨h2.1, fun r hr => retK_reach hq (h2.2 r hr)⟩) (fun h2 => ⟨h2.1, fun r hr => ⟨(h2.2 r hr).1, retK_reach hq (h2.2 r hr).2⟩⟩)⟩
  · exact .inr ⟨H0, N, Q, h1, h2, h3, fun H1 n' r hq' => ⟨⟨_, _, _, rfl, by simp [hq]⟩, h4 H1 n' r hq'⟩⟩
theorem storeS_form (A x : AV) : ∃ h u, storeS st A x = { st with heap := h, us := u } := by
  unfold storeS
  split
  · simp only
    split
    · exact ⟨_, _, rfl⟩
    · exact ⟨_, _, rfl⟩
  · exact ⟨st.heap, st.us, rfl⟩
theorem intoS_form (A x : AV) : ∃ h u, intoS st A x = { st with heap := h, us := u } := by
  unfold intoS
  split
  · exact ⟨_, _, rfl⟩
  · exact ⟨st.heap, st.us, rfl⟩
theorem clrS_form (ag : Bool) (z : List CV) (A : AV) : ∃ h u, clrS st ag z A = { st with heap := h, us := u } := by
  unfold clrS
  split
  · exact ⟨_, _, rfl⟩
  · exact ⟨st.heap, st.us, rfl⟩
theorem evOp_reach (hq : i.op.quiet = false) (hr : evOp P i st K) : evOp P i st (fun s => Reach i st s ∧ K s) := by
  unfold evOp at *
  split at hr
  · rename_i hop
    refine ⟨hr.1, hr.2.1, hr.2.2.imp (fun x => ⟨x.1, ⟨_, _, _, rfl, by simp [hq]⟩, x.2⟩) (fun x => ⟨x.1, ?_, x.2⟩)⟩
    obtain ⟨h, u, e⟩ := intoS_form (st := st) (st.val _) (st.val _)
    exact ⟨h, u, _, by rw [e], by simp [hq]⟩
  · exact ⟨hr.1, ⟨st.heap, st.us, _, rfl, by simp [hq]⟩, hr.2⟩
  · rename_i hop
    refine ⟨hr.1, hr.2.1, ?_, hr.2.2⟩
    obtain ⟨h, u, e⟩ := clrS_form (st := st) _ _ (st.val _)
    exact ⟨h, u, _, by rw [e], by simp [hq]⟩
  · rename_i hop
    refine ⟨hr.1, hr.2.1, hr.2.2.1, ?_, hr.2.2.2⟩
    obtain ⟨h, u, e⟩ := storeS_form (st := st) (st.val _) (st.val _)
    exact ⟨h, u, _, by rw [e], by simp [hq]⟩
  · rename_i hop; exact ⟨hr.1, hr.2.1, fun b hb => ⟨⟨st.heap, st.us, _, rfl, by simp [hq]⟩, hr.2.2 b hb⟩⟩
  · exact ⟨hr.1, evCall_reach hq hr.2⟩
  · refine ⟨hr.1, hr.2.1, ?_⟩
    have := hr.2.2
    split at this
    · exact evCall_reach hq this
    · exact evCall_reach hq this
    · exact this.elim
  · refine ⟨hr.1, ?_, hr.2⟩
    cases hb : rop st i.op with
    | none => exact ⟨st.heap, st.us, _, rfl, by simp [hq]⟩
    | some b => exact ⟨_, _, _, rfl, by simp [hq]⟩
theorem ev1_reach (hr : ev1 P i st K) : ev1 P i st (fun s => Reach i st s ∧ K s) := by
  cases hq : i.op.quiet with
  | true =>
    rw [ev1_quiet hq] at *
    exact ⟨hr.1, ⟨st.heap, st.us, _, rfl, fun _ => ⟨rfl, rfl⟩⟩, hr.2⟩
  | false =>
    unfold ev1 at *
    split at hr
    · exact evOp_reach hq hr
    · refine ⟨hr.1, ?_⟩
      have h2 := hr.2
      have hq' : ¬ i.op.quiet = true := by simp [hq]
      rw [if_neg hq'] at h2 ⊢
      exact ⟨fun hc => evOp_reach hq (h2.1 hc), fun hc => ⟨⟨st.heap, st.us, _, rfl, by simp [hq]⟩, h2.2 hc⟩⟩

/-! ### a slot that it does not look at -/
theorem put_comm' {dd : Option Nat} {x : AV} (h : dd ≠ some d) : (st.put (some d) v).put dd x = (st.put dd x).put (some d) v := by
  cases dd with
  | none => rfl
  | some e =>
    have hne : e ≠ d := fun he => h (he ▸ rfl)
    simp only [St.put]
    congr 1
    funext q
    simp only [tupd]
    by_cases h1 : q = e
    · subst h1; simp [hne]
    · simp [h1]
theorem retK_put (hne : i.dst ≠ some d) {r : AV} (hr : retK i (st.put (some d) v) K r) : retK i st (fun s => K (s.put (some d) v)) r := by
  unfold retK at *
  split
  · rename_i ha
    rw [if_pos ha] at hr
    split at hr
    · refine ⟨hr.1, hr.2.1, ?_⟩
      show K _
      rw [← put_comm' hne]
      exact hr.2.2
    · exact hr.elim
  · rename_i ha
    rw [if_neg ha] at hr
    show K _
    rw [← put_comm' hne]
    exact hr
theorem evCall_put (hne : i.dst ≠ some d) {f : Nat} {vs : List AV} (hr : evCall P i (st.put (some d) v) K f vs) : evCall P i st (fun s => K (s.put (some d) v)) f vs := by
  rcases hr with ⟨Q, h1, h2⟩ | ⟨H0, N, Q, h1, h2, h3, h4⟩
  · exact .inl ⟨Q, h1, h2.imp (fun h2 => ⟨h2.1, fun r hr => retK_put hne (h2.2 r hr)⟩) (fun h2 => ⟨h2.1, fun r hr => ⟨(h2.2 r hr).1, retK_put hne (h2.2 r hr).2⟩⟩)⟩
  · refine .inr ⟨H0, N, Q, h1, h2, h3, fun H1 n' r hq => ?_⟩
    have := h4 H1 n' r hq
    have e : afterS (st.put (some d) v) H0 H1 N n' = (afterS st H0 H1 N n').put (some d) v := rfl
    rw [e, put_comm' hne] at this
    exact this
theorem storeS_put {A x : AV} : storeS (st.put (some d) v) A x = (storeS st A x).put (some d) v := by
  unfold storeS
  split
  · simp only [blk_put]
    split <;> rfl
  · rfl
theorem intoS_put {A x : AV} : intoS (st.put (some d) v) A x = (intoS st A x).put (some d) v := by
  unfold intoS
  split <;> rfl
theorem intoV_put {A x : AV} : intoV (st.put (some d) v) A x = intoV st A x := by
  unfold intoV
  split <;> rfl
theorem clrS_put {ag : Bool} {z : List CV} {A : AV} : clrS (st.put (some d) v) ag z A = (clrS st ag z A).put (some d) v := by
  unfold clrS
  split <;> rfl
theorem rop_put {op : AOp} (h : d ∉ op.slots) : rop (st.put (some d) v) op = rop st op := by
  cases op <;> first | rfl | skip
  simp only [AOp.slots] at h
  simp only [rop, val_put h]
theorem make_put {k : Nat} {b : Option Blk} : (st.put (some d) v).make k b = (st.make k b).put (some d) v := by cases b <;> rfl
theorem evOp_put (hl : d ∉ i.op.slots) (hne : i.dst ≠ some d) (hr : evOp P i (st.put (some d) v) K) : evOp P i st (fun s => K (s.put (some d) v)) := by
  unfold evOp at *
  split at hr
  · rename_i sz bytes s x hop
    rw [hop] at hl
    simp only [AOp.slots, List.mem_append, not_or] at hl
    rw [val_put hl.1, val_put hl.2, ok_put hl.1, ok_put hl.2] at hr
    refine ⟨hr.1, hr.2.1, hr.2.2.imp (fun hr => ⟨hr.1, ?_⟩) (fun hr => ⟨hr.1, ?_⟩)⟩
    rotate_left
    · have h4 := hr.2
      rw [intoS_put, intoV_put, put_comm' hne] at h4
      exact h4
    have h4 := hr.2
    have e1 : appS (st.put (some d) v) i.k sz (st.val s) (st.val x) = (appS st i.k sz (st.val s) (st.val x)).put (some d) v := rfl
    have e2 : appV (st.put (some d) v) i.k (st.val s) (st.val x) = appV st i.k (st.val s) (st.val x) := rfl
    rw [e1, e2, put_comm' hne] at h4
    exact h4
  · rename_i x l h m hop
    rw [hop] at hl
    simp only [AOp.slots, List.mem_append, not_or] at hl
    have e : slmOk (st.put (some d) v) x l h m = slmOk st x l h m := by
      unfold slmOk boundOk Amb.hi'
      simp only [val_put hl.1, val_put hl.2.1, val_put hl.2.2.1, val_put hl.2.2.2, ok_put hl.1, ok_put hl.2.1, ok_put hl.2.2.1, ok_put hl.2.2.2]
      rfl
    rw [e, put_comm' hne] at hr
    exact hr
  · rename_i sz ag z x hop
    rw [hop] at hl
    simp only [AOp.slots] at hl
    rw [val_put hl, ok_put hl] at hr
    refine ⟨hr.1, hr.2.1, ?_⟩
    have h4 := hr.2.2
    rw [clrS_put, put_comm' hne] at h4
    exact h4
  · rename_i n ag A x hop
    rw [hop] at hl
    simp only [AOp.slots, List.mem_append, not_or] at hl
    rw [val_put hl.1, val_put hl.2, ok_put hl.1, ok_put hl.2] at hr
    refine ⟨hr.1, hr.2.1, hr.2.2.1, ?_⟩
    have h4 := hr.2.2.2
    rw [storeS_put, put_comm' hne] at h4
    exact h4
  · rename_i ng x hop
    rw [hop] at hl
    simp only [AOp.slots] at hl
    rw [val_put hl, ok_put hl] at hr
    refine ⟨hr.1, hr.2.1, fun b hb => ?_⟩
    have h4 := hr.2.2 b hb
    rw [put_comm' hne] at h4
    exact h4
  · rename_i f args hop
    rw [hop] at hl
    simp only [AOp.slots] at hl
    rw [all_put hl, map_put hl] at hr
    exact ⟨hr.1, evCall_put hne hr.2⟩
  · rename_i x args hop
    rw [hop] at hl
    simp only [AOp.slots, List.mem_append, not_or] at hl
    rw [all_put hl.2, map_put hl.2, val_put hl.1, ok_put hl.1] at hr
    refine ⟨hr.1, hr.2.1, ?_⟩
    have := hr.2.2
    split at this
    · exact evCall_put hne this
    · exact evCall_put hne this
    · exact this.elim
  · rw [pop_put hl, rop_put hl, make_put, vop_put hl, put_comm' hne] at hr
    exact hr
theorem gok_put {s : Nat} (h : s ≠ d) : gok (st.put (some d) v) s = gok st s := by
  simp [gok, St.put, tupd, h]
theorem gcond_put {s : Nat} {b : Bool} (h : s ≠ d) : gcond (st.put (some d) v) s b = gcond st s b := by
  simp [gcond, St.put, tupd, h]
theorem looks_split (hl : d ∉ i.looks) : d ∉ i.op.slots ∧ ∀ s b, i.g = some (s, b) → s ≠ d := by
  unfold AI.looks at hl
  rw [List.mem_append, not_or] at hl
  refine ⟨hl.1, fun s b hg e => ?_⟩
  rw [hg] at hl
  simp at hl
  exact hl.2 e.symm
theorem ok1_put (hl : d ∉ i.looks) : ok1 i (st.put (some d) v) ↔ ok1 i st := by
  obtain ⟨h1, h2⟩ := looks_split hl
  unfold ok1
  cases hg : i.g with
  | none => exact pop_put h1
  | some p => simp only [gok_put (h2 p.1 p.2 hg), gcond_put (h2 p.1 p.2 hg), pop_put h1]
theorem val1_put (hl : d ∉ i.looks) : val1 i (st.put (some d) v) = val1 i st := by
  obtain ⟨h1, h2⟩ := looks_split hl
  unfold val1
  cases hg : i.g with
  | none => exact vop_put h1
  | some p => simp only [gcond_put (h2 p.1 p.2 hg), vop_put h1]
theorem ok1_heap {h : Nat → Option Blk} {u : Nat → Bool} (hr : i.op.reads = false) (hq : i.op.quiet = true) : ok1 i { st with heap := h, us := u } ↔ ok1 i st := by
  unfold ok1
  cases i.g with
  | none => exact pop_heap hr hq
  | some p =>
    show (gok st p.1 ∧ (gcond st p.1 p.2 = true → _)) ↔ _
    simp only [pop_heap hr hq]
theorem val1_heap {h : Nat → Option Blk} {u : Nat → Bool} (hr : i.op.reads = false) : val1 i { st with heap := h, us := u } = val1 i st := by
  unfold val1
  cases i.g with
  | none => exact vop_heap hr
  | some p =>
    show AV.grd (gcond st p.1 p.2) _ = _
    simp only [vop_heap hr]
theorem ev1_put (hl : d ∉ i.looks) (hne : i.dst ≠ some d) (hr : ev1 P i (st.put (some d) v) K) : ev1 P i st (fun s => K (s.put (some d) v)) := by
  obtain ⟨h1, h2⟩ := looks_split hl
  cases hq : i.op.quiet with
  | true =>
    rw [ev1_quiet hq] at *
    rw [ok1_put hl, val1_put hl, put_comm' hne] at hr
    exact hr
  | false =>
    unfold ev1 at *
    cases hg : i.g with
    | none => rw [hg] at hr; exact evOp_put h1 hne hr
    | some p =>
      obtain ⟨s, b⟩ := p
      rw [hg] at hr
      simp only [gok_put (h2 s b hg), gcond_put (h2 s b hg), hq, Bool.false_eq_true, if_false] at hr ⊢
      refine ⟨hr.1, fun hc => evOp_put h1 hne (hr.2.1 hc), fun hc => ?_⟩
      have := hr.2.2 hc
      rw [put_comm' hne] at this
      exact this
end
end Go.Amb

set_option linter.unusedSimpArgs false
set_option linter.unusedVariables false
namespace Go.Amb
open Go Go.RowKit

/-- Operation j comes after i, by an edge of its own. -/
def dep (ops : Array Oper) (j i : Nat) : Bool :=
  match ops[j]? with
  | some o => o.after.any fun e => Region.binds .any e && e.on == i
  | none => false
inductive Bef (ops : Array Oper) : Nat → Nat → Prop
  | one {i j} (h : dep ops j i = true) : Bef ops i j
  | step {i m j} (h : dep ops j m = true) (t : Bef ops i m) : Bef ops i j
def Listed (L : Array Bool) (i : Nat) : Prop := L.getD i false = true
def Closed (ops : Array Oper) (L : Array Bool) : Prop := ∀ j i, Listed L j → dep ops j i = true → Listed L i

/-- Masks of what comes before. -/
def mask1 (acc : List Nat) (o : Oper) : Nat := o.after.toList.foldl (fun s e => if Region.binds .any e then s ||| (1 <<< e.on) ||| acc.getD e.on 0 else s) 0
def masks : List Oper → List Nat → List Nat
  | [], acc => acc
  | o :: os, acc => masks os (acc ++ [mask1 acc o])
def bef (pm : List Nat) (i j : Nat) : Bool := (pm.getD j 0).testBit i

section
variable {ops : Array Oper}
theorem mask1_spec (acc : List Nat) (o : Oper) (j i : Nat) (hj : ops[j]? = some o) (hacc : ∀ m i, (acc.getD m 0).testBit i = true → Bef ops i m) (h : (mask1 acc o).testBit i = true) : Bef ops i j := by
  have key : ∀ (l : List Edge) (s : Nat), (∀ e ∈ l, e ∈ o.after.toList) → (s.testBit i = true → Bef ops i j) → (l.foldl (fun s e => if Region.binds .any e then s ||| (1 <<< e.on) ||| acc.getD e.on 0 else s) s).testBit i = true → Bef ops i j := by
    intro l
    induction l with
    | nil => intro s _ hs h; exact hs h
    | cons e l ih =>
      intro s hl hs h
      refine ih _ (fun e he => hl e (by simp [he])) ?_ h
      intro h'
      dsimp only at h'
      split at h'
      · rename_i hb
        have hd : dep ops j e.on = true := by
          unfold dep
          rw [hj]
          simp only [Array.any_eq_true']
          exact ⟨e, Array.mem_toList_iff.1 (hl e (by simp)), by simp [hb]⟩
        rw [Nat.testBit_or, Nat.testBit_or, Bool.or_eq_true, Bool.or_eq_true] at h'
        rcases h' with (h' | h') | h'
        · exact hs h'
        · rw [Nat.one_shiftLeft, Nat.testBit_two_pow] at h'
          have : i = e.on := by have := of_decide_eq_true h'; omega
          rw [this]
          exact .one hd
        · exact .step hd (hacc _ _ h')
      · exact hs h'
  exact key _ 0 (fun e he => he) (by simp) h
theorem masks_spec : ∀ (os : List Oper) (acc : List Nat), (∀ m o, os[m]? = some o → ops[acc.length + m]? = some o) → (∀ m i, (acc.getD m 0).testBit i = true → Bef ops i m) → ∀ m i, ((masks os acc).getD m 0).testBit i = true → Bef ops i m
  | [], acc, _, h => h
  | o :: os, acc, ho, h => by
    refine masks_spec os _ (fun m o' hm => ?_) ?_
    · have := ho (m + 1) o' (by simpa using hm)
      rw [List.length_append, List.length_singleton, show acc.length + 1 + m = acc.length + (m + 1) by omega]
      exact this
    · intro m i hb
      rw [List.getD_eq_getElem?_getD, List.getElem?_append] at hb
      split at hb
      · exact h m i (by rw [List.getD_eq_getElem?_getD]; exact hb)
      · rename_i hlt
        by_cases hm : m = acc.length
        · subst hm
          simp at hb
          exact mask1_spec acc o _ i (by simpa using ho 0 o rfl) h hb
        · rw [List.getElem?_eq_none (by simp; omega)] at hb
          simp at hb
theorem bef_spec {i j : Nat} (h : bef (masks ops.toList []) i j = true) : Bef ops i j :=
  masks_spec ops.toList [] (fun m o hm => by simpa using hm) (fun m i hb => by simp at hb) j i h

theorem bef_listed {L : Array Bool} (hc : Closed ops L) {i j : Nat} (h : Bef ops i j) (hd : ∀ m, dep ops j m = true → Listed L m) : Listed L i := by
  induction h with
  | one h => exact hd _ h
  | step h t ih => exact ih (fun q hq => hc _ q (hd _ h) hq)
theorem ready_iff {L : Array Bool} {j : Nat} : j ∈ Region.ready .any ops L ↔ L.getD j true = false ∧ (∃ o, ops[j]? = some o) ∧ ∀ m, dep ops j m = true → Listed L m := by
  rw [mem_ready]
  constructor
  · rintro ⟨h1, o, ho, h2⟩
    refine ⟨h1, ⟨o, ho⟩, fun m hm => ?_⟩
    unfold dep at hm
    rw [ho] at hm
    simp only [Array.any_eq_true', Bool.and_eq_true, beq_iff_eq] at hm
    obtain ⟨e, he, hb, rfl⟩ := hm
    exact h2 e he hb
  · rintro ⟨h1, ⟨o, ho⟩, h2⟩
    refine ⟨h1, o, ho, fun e he hb => h2 e.on ?_⟩
    unfold dep
    rw [ho]
    simp only [Array.any_eq_true', Bool.and_eq_true, beq_iff_eq]
    exact ⟨e, he, hb, rfl⟩
theorem not_listed {L : Array Bool} {j : Nat} (h : L.getD j true = false) : ¬ Listed L j := by
  unfold Listed
  rcases Nat.lt_or_ge j L.size with h' | h'
  · simp [h'] at h ⊢; exact h
  · simp [Array.getElem?_eq_none h'] at h
theorem listed_set {L : Array Bool} {i j : Nat} (h : Listed L j) : Listed (L.setIfInBounds i true) j := getD_set_true h
theorem listed_set_ne {L : Array Bool} {i j : Nat} (hne : i ≠ j) (h : Listed (L.setIfInBounds i true) j) : Listed L j := by
  unfold Listed at *
  rwa [getD_set_ne false hne] at h
theorem listed_self {L : Array Bool} {i : Nat} (h : L.getD i true = false) : Listed (L.setIfInBounds i true) i := by
  rcases Nat.lt_or_ge i L.size with h' | h'
  · simp [Listed, h']
  · simp [Array.getElem?_eq_none h'] at h
theorem closed_set {L : Array Bool} {j : Nat} (hc : Closed ops L) (hr : j ∈ Region.ready .any ops L) : Closed ops (L.setIfInBounds j true) := by
  intro m i hm hd
  by_cases h : j = m
  · subst h; exact listed_set ((ready_iff.1 hr).2.2 i hd)
  · exact listed_set (hc m i (listed_set_ne h hm) hd)
end

/-! ### any order, abstractly -/
def wsOf (ws : List (Nat × List Nat)) (j : Nat) : List Nat := (ws.lookup j).getD []
/-- A quiet operation gives now what it gave. -/
def recheck (is : List AI) (s : St) (m : Nat) : Prop :=
  match is[m]? with
  | some i => ok1 i s ∧ (match i.dst with | some d => val1 i s = s.tmp d | none => False)
  | none => False
def ev1w (P : Program) (is : List AI) (ws : List (Nat × List Nat)) (L : Array Bool) (j : Nat) (st : St) (K : St → Prop) : Prop :=
  match is[j]? with
  | some i => ev1 P i st fun s => (∀ m ∈ wsOf ws j, Listed L m → recheck is s m) ∧ K s
  | none => False
def evAny (P : Program) (ops : Array Oper) (is : List AI) (ws : List (Nat × List Nat)) (K : St → Prop) : Nat → Array Bool → St → Prop
  | 0, L, st => Region.ready .any ops L = [] ∧ K st
  | fuel + 1, L, st => (Region.ready .any ops L = [] → K st) ∧ ∀ j ∈ Region.ready .any ops L, ev1w P is ws L j st (evAny P ops is ws K fuel (L.setIfInBounds j true))

/-- May be taken first, whenever it is ready. -/
def takeOk (ops : Array Oper) (is : List AI) (ws : List (Nat × List Nat)) (pm : List Nat) (i : Nat) : Bool :=
  match is[i]? with
  | none => false
  | some ii =>
    match ii.dst with
    | none => false
    | some d => ii.op.quiet && !ii.looks.contains d && (wsOf ws i).isEmpty &&
      (List.range is.length).all fun j => j == i || (match is[j]? with
        | none => true
        | some jj => jj.dst != some d && (!jj.looks.contains d || dep ops j i) &&
          (match jj.dst with | some dj => !ii.looks.contains dj || dep ops i j || dep ops j i | none => true) &&
          (!ii.op.reads || jj.op.quiet || bef pm i j || bef pm j i || (wsOf ws j).contains i))
structure Take (ops : Array Oper) (is : List AI) (ws : List (Nat × List Nat)) (i : Nat) (ii : AI) (d : Nat) : Prop where
  get : is[i]? = some ii
  dst : ii.dst = some d
  quiet : ii.op.quiet = true
  self : d ∉ ii.looks
  ws0 : wsOf ws i = []
  dne : ∀ j jj, is[j]? = some jj → j ≠ i → jj.dst ≠ some d
  looked : ∀ j jj, is[j]? = some jj → j ≠ i → d ∈ jj.looks → dep ops j i = true
  looks : ∀ j jj dj, is[j]? = some jj → j ≠ i → jj.dst = some dj → dj ∈ ii.looks → dep ops i j = true ∨ dep ops j i = true
  reads : ∀ j jj, is[j]? = some jj → j ≠ i → ii.op.reads = true → jj.op.quiet = true ∨ Bef ops i j ∨ Bef ops j i ∨ i ∈ wsOf ws j

section
variable {P : Program} {ops : Array Oper} {is : List AI} {ws : List (Nat × List Nat)} {K : St → Prop}
theorem takeOk_spec {i : Nat} (h : takeOk ops is ws (masks ops.toList []) i = true) : ∃ ii d, Take ops is ws i ii d := by
  unfold takeOk at h
  split at h
  · cases h
  · rename_i ii hi
    split at h
    · cases h
    · rename_i d hd
      simp only [Bool.and_eq_true, Bool.not_eq_true', List.all_eq_true, List.mem_range, Bool.or_eq_true, beq_iff_eq] at h
      obtain ⟨⟨⟨h1, h2⟩, h3⟩, h4⟩ := h
      have at_ : ∀ j jj, is[j]? = some jj → j ≠ i → _ := fun j jj hj hne => by
        have := (h4 j (List.getElem?_eq_some_iff.1 hj).1).resolve_left hne
        simp only [hj] at this
        exact this
      refine ⟨ii, d, hi, hd, h1, by simpa using h2, by simpa using h3, ?_, ?_, ?_, ?_⟩
      · intro j jj hj hne
        have := at_ j jj hj hne
        simp only [Bool.and_eq_true, bne_iff_ne] at this
        exact this.1.1.1
      · intro j jj hj hne hm
        have := at_ j jj hj hne
        simp only [Bool.and_eq_true, Bool.or_eq_true, Bool.not_eq_true'] at this
        exact this.1.1.2.resolve_left (by simpa using hm)
      · intro j jj dj hj hne hdj hm
        have := at_ j jj hj hne
        simp only [Bool.and_eq_true, Bool.or_eq_true, Bool.not_eq_true', hdj] at this
        have := this.1.2
        rcases this with (h | h) | h
        · simp at h; exact absurd hm h
        · exact .inl h
        · exact .inr h
      · intro j jj hj hne hrd
        have := at_ j jj hj hne
        simp only [Bool.and_eq_true, Bool.or_eq_true, Bool.not_eq_true'] at this
        rcases this.2 with (((h | h) | h) | h) | h
        · rw [hrd] at h; cases h
        · exact .inl h
        · exact .inr (.inl (bef_spec h))
        · exact .inr (.inr (.inl (bef_spec h)))
        · exact .inr (.inr (.inr (by simpa using h)))

theorem tmp_put_self {st : St} {d : Nat} {v : AV} : (st.put (some d) v).tmp d = v := by simp [St.put, tupd]
theorem tmp_put_ne {st : St} {d e : Nat} {v : AV} (h : e ≠ d) : (st.put (some d) v).tmp e = st.tmp e := by simp [St.put, tupd, h]

theorem ev_first {i : Nat} {ii : AI} {d : Nat} (T : Take ops is ws i ii d) (hT : ∀ j : Nat, (∃ o : Oper, ops[j]? = some o) → ∃ jj : AI, is[j]? = some jj)
    (hws : ∀ j m, m ∈ wsOf ws j → ∃ mm e, Take ops is ws m mm e) :
    ∀ (fuel : Nat) (L : Array Bool) (st : St), Closed ops L → i ∈ Region.ready .any ops L → ok1 ii st → evAny P ops is ws K fuel (L.setIfInBounds i true) (st.put (some d) (val1 ii st)) → evAny P ops is ws K (fuel + 1) L st := by
  intro fuel
  have self : ∀ (fuel : Nat) (L : Array Bool) (st : St), ok1 ii st → evAny P ops is ws K fuel (L.setIfInBounds i true) (st.put (some d) (val1 ii st)) → ev1w P is ws L i st (evAny P ops is ws K fuel (L.setIfInBounds i true)) := by
    intro fuel L st hok H
    unfold ev1w
    rw [T.get]
    simp only
    rw [ev1_quiet T.quiet, T.dst]
    exact ⟨hok, fun m hm => by rw [T.ws0] at hm; simp at hm, H⟩
  induction fuel with
  | zero =>
    intro L st hc hr hok H
    refine ⟨fun h => (by rw [h] at hr; cases hr), fun j hj => ?_⟩
    by_cases hji : j = i
    · subst hji; exact self 0 L st hok H
    · have := ready_mono hj hji
      rw [H.1] at this
      cases this
  | succ fuel ih =>
    intro L st hc hr hok H
    refine ⟨fun h => (by rw [h] at hr; cases hr), fun j hj => ?_⟩
    by_cases hji : j = i
    · subst hji; exact self (fuel + 1) L st hok H
    have hri := ready_iff.1 hr
    have hrj := ready_iff.1 hj
    have ndij : ¬ dep ops i j = true := fun h => not_listed hrj.1 (hri.2.2 j h)
    have ndji : ¬ dep ops j i = true := fun h => not_listed hri.1 (hrj.2.2 i h)
    have h1 := H.2 j (ready_mono hj hji)
    obtain ⟨jj, hjj⟩ := hT j hrj.2.1
    unfold ev1w at h1 ⊢
    rw [hjj] at h1 ⊢
    simp only at h1 ⊢
    have hdl : d ∉ jj.looks := fun h => ndji (T.looked j jj hjj hji h)
    have hdn : jj.dst ≠ some d := T.dne j jj hjj hji
    have h2 := ev1_reach (ev1_put hdl hdn h1)
    refine ev1_mono ?_ h2
    rintro s ⟨⟨hp, u, v', hs, hq⟩, hw, hK⟩
    have hdst : ∀ dj, jj.dst = some dj → dj ∉ ii.looks := fun dj hdj hm => (T.looks j jj dj hjj hji hdj hm).elim ndij ndji
    have hY : ok1 ii s ∧ val1 ii s = val1 ii st := by
      have fromHeap : ∀ (h' : Nat → Option Blk) (u' : Nat → Bool), s = ({ st with heap := h', us := u' } : St).put jj.dst v' → (ok1 ii { st with heap := h', us := u' } ↔ ok1 ii st) → val1 ii { st with heap := h', us := u' } = val1 ii st → ok1 ii s ∧ val1 ii s = val1 ii st := by
        intro h' u' e e1 e2
        rw [e]
        cases hdj : jj.dst with
        | none => exact ⟨e1.2 hok, e2⟩
        | some dj => rw [ok1_put (hdst dj hdj), val1_put (hdst dj hdj)]; exact ⟨e1.2 hok, e2⟩
      cases hrd : ii.op.reads with
      | false => exact fromHeap hp u hs (ok1_heap hrd T.quiet) (val1_heap hrd)
      | true =>
        rcases T.reads j jj hjj hji hrd with h | h | h | h
        · obtain ⟨e1, e2⟩ := hq h
          subst e1 e2
          exact fromHeap st.heap st.us hs Iff.rfl rfl
        · exact absurd (bef_listed hc h hrj.2.2) (not_listed hri.1)
        · exact absurd (bef_listed hc h hri.2.2) (not_listed hrj.1)
        · have := hw i h (listed_self hri.1)
          unfold recheck at this
          rw [T.get] at this
          simp only [T.dst, tmp_put_self, ok1_put T.self, val1_put T.self] at this
          exact this
    refine ⟨fun m hm hl => ?_, ?_⟩
    · obtain ⟨mm, e, M⟩ := hws j m hm
      have hmi : m ≠ i := fun h => not_listed hri.1 (h ▸ hl)
      have h3 := hw m hm (listed_set hl)
      unfold recheck at h3 ⊢
      rw [M.get] at h3 ⊢
      simp only [M.dst] at h3 ⊢
      have hmd : d ∉ mm.looks := fun h => not_listed hri.1 (hc m i hl (T.looked m mm M.get hmi h))
      have hed : e ≠ d := fun h => T.dne m mm M.get hmi (by rw [M.dst, h])
      rw [ok1_put hmd, val1_put hmd, tmp_put_ne hed] at h3
      exact h3
    · refine ih (L.setIfInBounds j true) s (closed_set hc hj) (ready_mono hr (Ne.symm hji)) hY.1 ?_
      rw [hY.2, Array.setIfInBounds_comm _ _ hji]
      exact hK

/-! ### one order -/
inductive Sch where
  | done
  | take (i : Nat) (s : Sch)
  | one (i : Nat) (s : Sch)
  | two (i : Nat) (s : Sch) (j : Nat) (t : Sch)
  | three (i : Nat) (s : Sch) (j : Nat) (t : Sch) (k : Nat) (u : Sch)
def Sch.ok (ops : Array Oper) (is : List AI) (ws : List (Nat × List Nat)) (pm : List Nat) : Sch → Nat → Array Bool → Bool
  | .done, _, L => (Region.ready .any ops L).isEmpty
  | .take i s, f, L => f != 0 && takeOk ops is ws pm i && (Region.ready .any ops L).contains i && s.ok ops is ws pm (f - 1) (L.setIfInBounds i true)
  | .one i s, f, L => f != 0 && Region.ready .any ops L == [i] && s.ok ops is ws pm (f - 1) (L.setIfInBounds i true)
  | .two i s j t, f, L => f != 0 && Region.ready .any ops L == [i, j] && s.ok ops is ws pm (f - 1) (L.setIfInBounds i true) && t.ok ops is ws pm (f - 1) (L.setIfInBounds j true)
  | .three i s j t k u, f, L => f != 0 && Region.ready .any ops L == [i, j, k] && s.ok ops is ws pm (f - 1) (L.setIfInBounds i true) && t.ok ops is ws pm (f - 1) (L.setIfInBounds j true) && u.ok ops is ws pm (f - 1) (L.setIfInBounds k true)
def rechecks (is : List AI) (s : St) : List Nat → Prop
  | [] => True
  | m :: ms => recheck is s m ∧ rechecks is s ms
def ev1t (P : Program) (is : List AI) (ws : List (Nat × List Nat)) (j : Nat) (st : St) (K : St → Prop) : Prop :=
  match is[j]? with
  | some i => ev1 P i st fun s => rechecks is s (wsOf ws j) ∧ K s
  | none => False
def evT (P : Program) (is : List AI) (ws : List (Nat × List Nat)) : Sch → St → (St → Prop) → Prop
  | .done, st, K => K st
  | .take i s, st, K => ev1t P is ws i st fun st' => evT P is ws s st' K
  | .one i s, st, K => ev1t P is ws i st fun st' => evT P is ws s st' K
  | .two i s j t, st, K => ev1t P is ws i st (fun st' => evT P is ws s st' K) ∧ ev1t P is ws j st (fun st' => evT P is ws t st' K)
  | .three i s j t k u, st, K => ev1t P is ws i st (fun st' => evT P is ws s st' K) ∧ ev1t P is ws j st (fun st' => evT P is ws t st' K) ∧ ev1t P is ws k st (fun st' => evT P is ws u st' K)
def wsOk (ops : Array Oper) (is : List AI) (ws : List (Nat × List Nat)) (pm : List Nat) : Bool := ws.all fun p => p.2.all fun m => takeOk ops is ws pm m

theorem rechecks_all {s : St} {l : List Nat} (h : rechecks is s l) : ∀ m ∈ l, recheck is s m := by
  induction l with
  | nil => simp
  | cons m l ih =>
    intro m' hm
    rcases List.mem_cons.1 hm with rfl | hm
    · exact h.1
    · exact ih h.2 m' hm
theorem ev1t_w {j : Nat} {st : St} {K K' : St → Prop} {L : Array Bool} (h : ev1t P is ws j st K) (hk : ∀ s, K s → K' s) : ev1w P is ws L j st K' := by
  unfold ev1t at h
  unfold ev1w
  split at h
  · exact ev1_mono (fun s hs => ⟨fun m hm _ => rechecks_all hs.1 m hm, hk s hs.2⟩) h
  · exact h.elim
theorem wsOk_spec (h : wsOk ops is ws (masks ops.toList []) = true) : ∀ j m, m ∈ wsOf ws j → ∃ mm e, Take ops is ws m mm e := by
  intro j m hm
  unfold wsOf at hm
  cases hl : ws.lookup j with
  | none => rw [hl] at hm; simp at hm
  | some l =>
    rw [hl] at hm
    simp only [Option.getD_some] at hm
    have hmem : ∃ p ∈ ws, p.2 = l := by
      clear h hm
      induction ws with
      | nil => simp at hl
      | cons p ws ih =>
        obtain ⟨a, b⟩ := p
        rw [List.lookup_cons] at hl
        split at hl
        · injection hl with hl; exact ⟨(a, b), by simp, hl⟩
        · obtain ⟨p, hp, e⟩ := ih hl; exact ⟨p, by simp [hp], e⟩
    obtain ⟨p, hp, e⟩ := hmem
    simp only [wsOk, List.all_eq_true] at h
    exact takeOk_spec (h p hp m (e ▸ hm))

theorem evT_any (hT : ∀ j : Nat, (∃ o : Oper, ops[j]? = some o) → ∃ jj : AI, is[j]? = some jj) (hws : ∀ j m, m ∈ wsOf ws j → ∃ mm e, Take ops is ws m mm e) :
    ∀ (t : Sch) (f : Nat) (L : Array Bool) (st : St), t.ok ops is ws (masks ops.toList []) f L = true → Closed ops L → evT P is ws t st K → evAny P ops is ws K f L st
  | .done, f, L, st, h, hc, H => by
    simp only [Sch.ok, List.isEmpty_iff] at h
    cases f with
    | zero => exact ⟨h, H⟩
    | succ f => exact ⟨fun _ => H, by rw [h]; simp⟩
  | .take i s, 0, L, st, h, hc, H => by simp [Sch.ok] at h
  | .one i s, 0, L, st, h, hc, H => by simp [Sch.ok] at h
  | .two i s j t, 0, L, st, h, hc, H => by simp [Sch.ok] at h
  | .three i s j t k u, 0, L, st, h, hc, H => by simp [Sch.ok] at h
  | .take i s, f + 1, L, st, h, hc, H => by
    simp only [Sch.ok, Bool.and_eq_true, Nat.add_sub_cancel] at h
    obtain ⟨⟨⟨_, h1⟩, h2⟩, h3⟩ := h
    have hr : i ∈ Region.ready .any ops L := by simpa using h2
    obtain ⟨ii, d, T⟩ := takeOk_spec h1
    simp only [evT, ev1t, T.get, T.ws0, rechecks, true_and] at H
    rw [ev1_quiet T.quiet, T.dst] at H
    exact ev_first T hT hws f L st hc hr H.1 (evT_any hT hws s f _ _ h3 (closed_set hc hr) H.2)
  | .one i s, f + 1, L, st, h, hc, H => by
    simp only [Sch.ok, Bool.and_eq_true, Nat.add_sub_cancel, beq_iff_eq] at h
    obtain ⟨⟨_, h1⟩, h2⟩ := h
    have hr : i ∈ Region.ready .any ops L := by rw [h1]; simp
    refine ⟨fun e => by rw [e] at h1; simp at h1, fun j hj => ?_⟩
    rw [h1] at hj
    simp only [List.mem_singleton] at hj
    subst hj
    exact ev1t_w H fun s' hs => evT_any hT hws s f _ _ h2 (closed_set hc hr) hs
  | .two i s i2 t, f + 1, L, st, h, hc, H => by
    simp only [Sch.ok, Bool.and_eq_true, Nat.add_sub_cancel, beq_iff_eq] at h
    obtain ⟨⟨⟨_, h1⟩, h2⟩, h3⟩ := h
    have hr : i ∈ Region.ready .any ops L := by rw [h1]; simp
    have hr2 : i2 ∈ Region.ready .any ops L := by rw [h1]; simp
    refine ⟨fun e => by rw [e] at h1; simp at h1, fun j hj => ?_⟩
    rw [h1] at hj
    simp only [List.mem_cons, List.not_mem_nil, or_false] at hj
    rcases hj with rfl | rfl
    · exact ev1t_w H.1 fun s' hs => evT_any hT hws s f _ _ h2 (closed_set hc hr) hs
    · exact ev1t_w H.2 fun s' hs => evT_any hT hws t f _ _ h3 (closed_set hc hr2) hs
  | .three i s i2 t i3 u, f + 1, L, st, h, hc, H => by
    simp only [Sch.ok, Bool.and_eq_true, Nat.add_sub_cancel, beq_iff_eq] at h
    obtain ⟨⟨⟨⟨_, h1⟩, h2⟩, h3⟩, h4⟩ := h
    have hr : i ∈ Region.ready .any ops L := by rw [h1]; simp
    have hr2 : i2 ∈ Region.ready .any ops L := by rw [h1]; simp
    have hr3 : i3 ∈ Region.ready .any ops L := by rw [h1]; simp
    refine ⟨fun e => by rw [e] at h1; simp at h1, fun j hj => ?_⟩
    rw [h1] at hj
    simp only [List.mem_cons, List.not_mem_nil, or_false] at hj
    rcases hj with rfl | rfl | rfl
    · exact ev1t_w H.1 fun s' hs => evT_any hT hws s f _ _ h2 (closed_set hc hr) hs
    · exact ev1t_w H.2.1 fun s' hs => evT_any hT hws t f _ _ h3 (closed_set hc hr2) hs
    · exact ev1t_w H.2.2 fun s' hs => evT_any hT hws u f _ _ h4 (closed_set hc hr3) hs
end
end Go.Amb

set_option linter.unusedSimpArgs false
set_option linter.unusedVariables false
namespace Go.Amb
open Go Go.RowKit

theorem chkIs_get {P : Program} {n : Nat} {ops : Array Oper} : ∀ (os : List Oper) (is : List AI), chkIs P n ops os is = true → ∀ (j : Nat) (o : Oper), os[j]? = some o → ∃ i : AI, is[j]? = some i ∧ chkI P n ops o i = true
  | [], [], _, j, o, h => by simp at h
  | o :: os, i :: is, hc, j, o', h => by
    simp only [chkIs, Bool.and_eq_true] at hc
    cases j with
    | zero => simp at h; subst h; exact ⟨i, rfl, hc.1⟩
    | succ j => simp at h; obtain ⟨i', h1, h2⟩ := chkIs_get os is hc.2 j o' h; exact ⟨i', by simpa using h1, h2⟩
  | [], _ :: _, hc, _, _, _ => by simp [chkIs] at hc
  | _ :: _, [], hc, _, _, _ => by simp [chkIs] at hc

section
variable {E : Env} {st : St} {a : Act} {w w' : World} {pl pl' : Pls} {fp : Nat → List Nat} {o : Oper} {k : Nat} {i : AI} {K : St → Prop} {Q : Exit → Act → World → Prop} {ops : Array Oper} {is : List AI} {ws : List (Nat × List Nat)}

theorem evAny_sound (hc : chkIs E.P E.n ops ops.toList is = true) (hq : ∀ st' a' w', K st' → Rel E st' a' w' → Q .normal a' w') :
    ∀ (fuel : Nat) (L : Array Bool) (st : St) (a : Act) (w : World), Rel E st a w → evAny E.P ops is ws K fuel L st → wpAny E.P .any ops Q fuel L a w := by
  intro fuel
  induction fuel with
  | zero => intro L st a w hR h; exact ⟨h.1, hq _ _ _ h.2 hR⟩
  | succ fuel ih =>
    intro L st a w hR h
    refine ⟨fun e => hq _ _ _ (h.1 e) hR, fun j hj => ?_⟩
    have h1 := h.2 j hj
    obtain ⟨o, ho⟩ := (ready_iff.1 hj).2.1
    obtain ⟨ii, hi, hci⟩ := chkIs_get _ _ hc j o (by simpa using ho)
    unfold ev1w at h1
    rw [hi] at h1
    refine wpOp_mono ?_ (ev1_sound (Q := Q) ho hci hR h1)
    rintro a' w' ⟨st', ⟨_, h2⟩, hR'⟩
    exact ih _ st' a' w' hR' h2

theorem rel_drew (hR : Rel E st a w) (n : Nat) : Rel E st a { w with drawn := n } := by
  obtain ⟨pl, fp, hR⟩ := hR
  exact ⟨pl, fp, hR.ext ⟨rfl, rfl, rfl, Nat.le_refl _, fun _ _ => rfl⟩⟩

theorem draw_sound {id : Nat} {t : Sch} (hm : E.P.follows .mixedOrders = true) (hc : chkIs E.P E.n ops ops.toList is = true) (hw : wsOk ops is ws (masks ops.toList []) = true)
    (ht : t.ok ops is ws (masks ops.toList []) ops.size (Array.replicate ops.size false) = true) (hR : Rel E st a w) (h : evT E.P is ws t st K) (hq : ∀ st' a' w', K st' → Rel E st' a' w' → Q .normal a' w') :
    (Code.region id ops true).wp E.P Q a w := by
  refine wp_region_any hm ?_
  refine evAny_sound (ws := ws) hc hq _ _ st a _ (rel_drew hR _) ?_
  refine evT_any (fun j ho => ?_) (wsOk_spec hw) t _ _ st ht ?_ h
  · obtain ⟨o, ho⟩ := ho
    obtain ⟨ii, hi, _⟩ := chkIs_get _ _ hc j o (by simpa using ho)
    exact ⟨ii, hi⟩
  · intro j i hj _
    exfalso
    unfold Listed at hj
    rcases Nat.lt_or_ge j ops.size with h' | h' <;> simp [h'] at hj
end

/-! ### code -/
inductive ACode where
  | skip
  | seq (x y : ACode)
  | cond (c : AOpr) (x y : ACode)
  | block (id : Nat) (c : ACode)
  | loop (c : ACode)
  | exit (id : Nat)
  | ret
  | reg (is : List AI)
  | draw (is : List AI) (ws : List (Nat × List Nat)) (t : Sch)

def chkCode (P : Program) (n : Nat) : Code → ACode → Bool
  | .skip, .skip => true
  | .seq x y, .seq x' y' => chkCode P n x x' && chkCode P n y y'
  | .cond c x y, .cond c' x' y' => chkX c c' && chkCode P n x x' && chkCode P n y y'
  | .block id c, .block id' c' => id == id' && chkCode P n c c'
  | .loop c, .loop c' => chkCode P n c c'
  | .exit id, .exit id' => id == id'
  | .ret, .ret => true
  | .region _ ops false, .reg is => chkIs P n ops ops.toList is
  | .region _ ops true, .draw is ws t => P.follows .mixedOrders && chkIs P n ops ops.toList is && wsOk ops is ws (masks ops.toList []) && t.ok ops is ws (masks ops.toList []) ops.size (Array.replicate ops.size false)
  | _, _ => false

/-- How a piece of code ends. -/
inductive AE where
  | normal | exit (id : Nat) | ret
def AE.of : Exit → Option AE
  | .normal => some .normal
  | .exit id => some (.exit id)
  | .ret => some .ret
  | _ => none
def postOf (E : Env) (Q : AE → St → Prop) (e : Exit) (a : Act) (w : World) : Prop := ∃ e', AE.of e = some e' ∧ ∃ st, Q e' st ∧ Rel E st a w
/-- From this state the code comes to an end of which Q holds. -/
def AW (P : Program) (n : Nat) (ac : ACode) (st : St) (Q : AE → St → Prop) : Prop :=
  ∀ (c : Code), chkCode P n c ac = true → ∀ (E : Env) (a : Act) (w : World), E.P = P → E.n = n → Rel E st a w → c.wp P (postOf E Q) a w

section
variable {P : Program} {n : Nat} {c : Code}
theorem inv_skip (h : chkCode P n c .skip = true) : c = .skip := by
  cases c with
  | skip => rfl
  | region id ops d => cases d <;> simp [chkCode] at h
  | _ => simp [chkCode] at h
theorem inv_ret (h : chkCode P n c .ret = true) : c = .ret := by
  cases c with
  | ret => rfl
  | region id ops d => cases d <;> simp [chkCode] at h
  | _ => simp [chkCode] at h
theorem inv_exit {id : Nat} (h : chkCode P n c (.exit id) = true) : c = .exit id := by
  cases c with
  | exit id' => simp [chkCode] at h; rw [h]
  | region id ops d => cases d <;> simp [chkCode] at h
  | _ => simp [chkCode] at h
theorem inv_seq {x y : ACode} (h : chkCode P n c (.seq x y) = true) : ∃ a b, c = .seq a b ∧ chkCode P n a x = true ∧ chkCode P n b y = true := by
  cases c with
  | seq a b => simp only [chkCode, Bool.and_eq_true] at h; exact ⟨a, b, rfl, h⟩
  | region id ops d => cases d <;> simp [chkCode] at h
  | _ => simp [chkCode] at h
theorem inv_cond {cx : AOpr} {x y : ACode} (h : chkCode P n c (.cond cx x y) = true) : ∃ z a b, c = .cond z a b ∧ chkX z cx = true ∧ chkCode P n a x = true ∧ chkCode P n b y = true := by
  cases c with
  | cond z a b => simp only [chkCode, Bool.and_eq_true] at h; exact ⟨z, a, b, rfl, h.1.1, h.1.2, h.2⟩
  | region id ops d => cases d <;> simp [chkCode] at h
  | _ => simp [chkCode] at h
theorem inv_block {id : Nat} {x : ACode} (h : chkCode P n c (.block id x) = true) : ∃ a, c = .block id a ∧ chkCode P n a x = true := by
  cases c with
  | block id' a => simp only [chkCode, Bool.and_eq_true, beq_iff_eq] at h; exact ⟨a, by rw [h.1], h.2⟩
  | region id ops d => cases d <;> simp [chkCode] at h
  | _ => simp [chkCode] at h
theorem inv_loop {x : ACode} (h : chkCode P n c (.loop x) = true) : ∃ a, c = .loop a ∧ chkCode P n a x = true := by
  cases c with
  | loop a => exact ⟨a, rfl, h⟩
  | region id ops d => cases d <;> simp [chkCode] at h
  | _ => simp [chkCode] at h
theorem inv_reg {is : List AI} (h : chkCode P n c (.reg is) = true) : ∃ id ops, c = .region id ops false ∧ chkIs P n ops ops.toList is = true := by
  cases c with
  | region id ops d => cases d <;> simp only [chkCode] at h; exact ⟨id, ops, rfl, h⟩; cases h
  | _ => simp [chkCode] at h
theorem inv_draw {is : List AI} {ws : List (Nat × List Nat)} {t : Sch} (h : chkCode P n c (.draw is ws t) = true) : ∃ id ops, c = .region id ops true ∧ P.follows .mixedOrders = true ∧ chkIs P n ops ops.toList is = true ∧
    wsOk ops is ws (masks ops.toList []) = true ∧ t.ok ops is ws (masks ops.toList []) ops.size (Array.replicate ops.size false) = true := by
  cases c with
  | region id ops d =>
    cases d <;> simp only [chkCode, Bool.and_eq_true] at h
    · cases h
    · exact ⟨id, ops, rfl, h.1.1.1, h.1.1.2, h.1.2, h.2⟩
  | _ => simp [chkCode] at h
end

section
variable {P : Program} {n : Nat} {st st' : St} {Q Q' : AE → St → Prop} {x y : ACode}

/-- Whatever stands for the one state stands for the other. -/
def Fit (st st' : St) : Prop := ∀ E a w, Rel E st a w → Rel E st' a w
theorem Fit.refl (st : St) : Fit st st := fun _ _ _ h => h
theorem Fit.trans {a b c : St} (h : Fit a b) (k : Fit b c) : Fit a c := fun E x w hr => k E x w (h E x w hr)
theorem AW.fit (h : Fit st st') (k : AW P n x st' Q) : AW P n x st Q := fun c hc E a w hP hn hR => k c hc E a w hP hn (h E a w hR)
theorem AW.mono (h : AW P n x st Q) (hq : ∀ e s, Q e s → Q' e s) : AW P n x st Q' := fun c hc E a w hP hn hR =>
  wp_mono (h c hc E a w hP hn hR) fun e a' w' ⟨e', h1, s, h2, h3⟩ => ⟨e', h1, s, hq _ _ h2, h3⟩
theorem AW.skip (h : Q .normal st) : AW P n .skip st Q := fun c hc E a w hP hn hR => by
  rw [inv_skip hc]; exact wp_skip ⟨.normal, rfl, st, h, hR⟩
theorem AW.ret (h : Q .ret st) : AW P n .ret st Q := fun c hc E a w hP hn hR => by
  rw [inv_ret hc]; exact wp_ret ⟨.ret, rfl, st, h, hR⟩
theorem AW.exit {id : Nat} (h : Q (.exit id) st) : AW P n (.exit id) st Q := fun c hc E a w hP hn hR => by
  rw [inv_exit hc]; exact wp_exit ⟨.exit _, rfl, st, h, hR⟩
/-- What follows. -/
def thenQ (K : St → Prop) (Q : AE → St → Prop) : AE → St → Prop
  | .normal, s => K s
  | e, s => Q e s
theorem AW.seq (h : AW P n x st (thenQ (fun s => AW P n y s Q) Q)) : AW P n (.seq x y) st Q := fun c hc E a w hP hn hR => by
  obtain ⟨c1, c2, rfl, h1, h2⟩ := inv_seq hc
  refine wp_seq (wp_mono (h _ h1 E a w hP hn hR) ?_)
  rintro e a' w' ⟨e', he, s, hq, hR'⟩
  cases e <;> simp only [AE.of, reduceCtorEq] at he <;> injection he with he <;> subst he
  · exact hq _ h2 E a' w' hP hn hR'
  · exact ⟨_, rfl, s, hq, hR'⟩
  · exact ⟨_, rfl, s, hq, hR'⟩
theorem AW.cond {cx : AOpr} (ho : st.ok cx) (hb : isBool (st.val cx) = true) (h1 : boolOf (st.val cx) = true → AW P n x st Q) (h2 : boolOf (st.val cx) = false → AW P n y st Q) : AW P n (.cond cx x y) st Q := fun c hc E a w hP hn hR => by
  obtain ⟨z, c1, c2, rfl, hx, hc1, hc2⟩ := inv_cond hc
  obtain ⟨pl, fp, hR'⟩ := hR
  obtain ⟨b, e1, e2⟩ := inv_isBool (opr_sound hR' hx ho) hb
  refine wp_cond_split e2 (fun hb => ?_) (fun hb => ?_)
  · exact h1 (by rw [e1, hb]; rfl) _ hc1 E a w hP hn ⟨pl, fp, hR'⟩
  · exact h2 (by rw [e1, hb]; rfl) _ hc2 E a w hP hn ⟨pl, fp, hR'⟩
def blockQ (id : Nat) (Q : AE → St → Prop) : AE → St → Prop
  | .exit id', s => if id' = id then Q .normal s else Q (.exit id') s
  | e, s => Q e s
theorem AW.block {id : Nat} (h : AW P n x st (blockQ id Q)) : AW P n (.block id x) st Q := fun c hc E a w hP hn hR => by
  obtain ⟨c, rfl, hc2⟩ := inv_block hc
  refine wp_block (wp_mono (h _ hc2 E a w hP hn hR) ?_)
  rintro e a' w' ⟨e', he, s, hq, hR'⟩
  cases e <;> simp only [AE.of, reduceCtorEq] at he <;> injection he with he <;> subst he
  · exact ⟨_, rfl, s, hq, hR'⟩
  · simp only [Exit.inBlock]
    simp only [blockQ] at hq
    split
    · rename_i he; rw [if_pos he] at hq; exact ⟨_, rfl, s, hq, hR'⟩
    · rename_i he; rw [if_neg he] at hq; exact ⟨_, rfl, s, hq, hR'⟩
  · exact ⟨_, rfl, s, hq, hR'⟩
/-- A loop: its states by a parameter, of which something falls. -/
theorem AW.loop {γ : Type} (I : γ → Prop) (S : γ → St) (μ : γ → Nat) (g0 : γ) (h0 : I g0) (hs : Fit st (S g0))
    (h : ∀ g, I g → AW P n x (S g) (thenQ (fun s => ∃ g', I g' ∧ μ g' < μ g ∧ Fit s (S g')) Q)) : AW P n (.loop x) st Q := fun c hc E a w hP hn hR => by
  obtain ⟨c, rfl, hc⟩ := inv_loop hc
  have hR0 := hs E a w hR
  intro b k cs
  have key : ∀ (m : Nat) (g : γ) (a : Act) (w : World), μ g = m → I g → Rel E (S g) a w → ∃ e a' w', postOf E Q e a' w' ∧ Arrives P (lone (b.at a (.code c :: .inLoop c :: k)) cs w) b k cs e a' w' := by
    intro m
    induction m using Nat.strongRecOn with
    | _ m ih =>
      intro g a w hm hI hR
      obtain ⟨e, a₁, w₁, ⟨e', he, s, hq, hR'⟩, harr⟩ := h g hI c hc E a w hP hn hR b (.inLoop c :: k) cs
      cases e <;> simp only [AE.of, reduceCtorEq] at he <;> injection he with he <;> subst he
      · obtain ⟨g', hI', hlt, hfit⟩ := hq
        obtain ⟨e₂, a₂, w₂, hq₂, harr₂⟩ := ih (μ g') (hm ▸ hlt) g' a₁ w₁ rfl hI' (hfit E a₁ w₁ hR')
        exact ⟨e₂, a₂, w₂, hq₂, .of_steps (Steps.trans harr (.one step_inLoop)) harr₂⟩
      · exact ⟨_, a₁, w₁, ⟨_, rfl, s, hq, hR'⟩, .pass (x := .inLoop c) rfl (fun _ _ => .inl (by simp)) harr⟩
      · exact ⟨_, a₁, w₁, ⟨_, rfl, s, hq, hR'⟩, .pass (x := .inLoop c) rfl (fun _ _ => .inl (by simp)) harr⟩
  obtain ⟨e, a', w', hq, harr⟩ := key _ g0 a w rfl h0 hR0
  exact ⟨e, a', w', hq, .of_steps (.one step_loop) harr⟩
theorem AW.reg {is : List AI} (h : evIs P is st (Q .normal)) : AW P n (.reg is) st Q := fun c hc E a w hP hn hR => by
  obtain ⟨id, ops, rfl, hc⟩ := inv_reg hc
  subst hP hn
  exact region_sound hc hR h fun s a' w' h1 h2 => ⟨_, rfl, s, h1, h2⟩
theorem AW.draw {is : List AI} {ws : List (Nat × List Nat)} {t : Sch} (h : evT P is ws t st (Q .normal)) : AW P n (.draw is ws t) st Q := fun c hc E a w hP hn hR => by
  obtain ⟨id, ops, rfl, h1, h2, h3, h4⟩ := inv_draw hc
  subst hP hn
  exact draw_sound h1 h2 h3 h4 hR h fun s a' w' h1 h2 => ⟨_, rfl, s, h1, h2⟩
end
end Go.Amb

set_option linter.unusedSimpArgs false
set_option linter.unusedVariables false
namespace Go.Amb
open Go Go.RowKit

inductive ARes where
  | tmp (t : Nat)
  | cell (t n : Nat) (agg : Bool)
def chkR (P : Program) : ResultVar → ARes → Bool
  | .tmp t, .tmp t' => t == t'
  | .cell a ty, .cell t n ag => a == t && szIs P ty n && aggIs P ty ag
  | _, _ => false
def chkRs (P : Program) : List ResultVar → List ARes → Bool
  | [], [] => true
  | x :: xs, y :: ys => chkR P x y && chkRs P xs ys
  | _, _ => false
def ARes.op : ARes → AOp
  | .tmp t => .mov (.t t)
  | .cell t n ag => .load n ag (.t t)

/-- How a value goes back to the caller, by cells. -/
def R1 (h : Nat → Option Blk) (v r : AV) : Prop :=
  match v with
  | .sl .ext [] => (match r with | .sl _ [] => True | _ => False)
  | .sl .ext xs => okAs noF noF xs ∧ r = .sl .fro (xs.map clC)
  | .sl .fro xs => r = .sl .fro xs
  | .ifc t x => okA noF noF x ∧ r = .ifc t (clC x)
  | .fn f cs => okAs noF noF cs ∧ r = .fn f (cs.map clC)
  | v => closeOk h v ∧ r = closeV h v
def R1s (h : Nat → Option Blk) : List AV → List AV → Prop
  | [], [] => True
  | v :: vs, r :: rs => R1 h v r ∧ R1s h vs rs
  | _, _ => False
def R2 (h : Nat → Option Blk) (v r : AV) : Prop :=
  match v with
  | .agg cs => (match r with | .agg rs => R1s h cs rs | _ => False)
  | v => R1 h v r
def R2s (h : Nat → Option Blk) : List AV → List AV → Prop
  | [], [] => True
  | v :: vs, r :: rs => R2 h v r ∧ R2s h vs rs
  | _, _ => False
def resV (s : St) (rs : List ARes) : List AV := rs.map fun r => vop s 0 r.op
def resP (s : St) : List ARes → Prop
  | [] => True
  | r :: rs => pop s 0 r.op ∧ resP s rs
def resOk (s : St) (rs : List ARes) (r : AV) : Prop :=
  resP s rs ∧ (usedE (resV s rs)).Nodup ∧
    match resV s rs with
    | [v] => R2 s.heap v r
    | vs => (match r with | .tup rs' => R2s s.heap vs rs' | _ => False)
def retQ (rs : List ARes) (Q : AV → Prop) : AE → St → Prop
  | .exit _, _ => False
  | _, s => ∃ r, Q r ∧ resOk s rs r
def argT : Nat → List AV → List (Nat × AV)
  | _, [] => []
  | i, v :: vs => (i, v) :: argT (i + 1) vs

section
variable {E : Env} {st : St} {a : Act} {w w' : World} {pl pl' : Pls} {fp : Nat → List Nat}


theorem closeR1 (hR : RelW E st a w pl fp) {c r : AV} {u : Value} (hv : Vals w (Own E st fp) E.w0.heap.size pl [c] [u] []) (hc : R1 st.heap c r) :
    ∃ f, Vals w (Own E st fp) E.w0.heap.size noPl [r] [u] f ∧ f.Nodup ∧ ∀ b ∈ f, ∃ r ∈ usedV c, (st.heap r).isSome = true ∧ b ∈ fp r := by
  have frozen : okA noF noF c → ∃ f, Vals w (Own E st fp) E.w0.heap.size noPl [clC c] [u] f ∧ f.Nodup ∧ ∀ b ∈ f, ∃ r ∈ usedV c, (st.heap r).isSome = true ∧ b ∈ fp r := by
    intro hok
    have := map_vals (fh := nilF) (fq := nilF) (oh := noF) (oq := noF) (O' := Own E st fp) (B' := E.w0.heap.size) nilF_one nilF_one (fun _ _ _ _ h => h.elim) (fun _ _ _ _ h => h.elim) (fun _ _ h => h) hv (.inl ⟨rfl, ⟨hok, trivial⟩⟩) (by simp)
    exact ⟨[], by simpa [mapAs, clC] using this, by simp, by simp⟩
  unfold R1 at hc
  split at hc
  · split at hc
    · rename_i K
      refine ⟨[], ?_, by simp, by simp⟩
      cases hv with
      | sle hk hc0 t =>
        have := hc0 rfl
        subst this
        cases K with
        | own sz => exact .owe .nil
        | _ => exact .sle rfl (fun _ => rfl) .nil
      | slf hk hx _ _ _ _ _ _ _ _ _ => exact absurd rfl hx
      | slx hx _ _ _ _ _ _ _ _ => exact absurd rfl hx
    · exact hc.elim
  · obtain ⟨h1, rfl⟩ := hc
    have := frozen h1
    simpa [clC, mapA, mapAs_eq] using this
  · subst hc
    obtain ⟨f, h1, h2, h3⟩ := close1 hR hv (c := .sl .fro _) trivial
    exact ⟨f, by simpa [closeV] using h1, h2, h3⟩
  · obtain ⟨h1, rfl⟩ := hc
    have := frozen h1
    simpa [clC, mapA] using this
  · obtain ⟨h1, rfl⟩ := hc
    have := frozen h1
    simpa [clC, mapA, mapAs_eq] using this
  · obtain ⟨h1, rfl⟩ := hc
    exact close1 hR hv h1

theorem closeR1s (hR : RelW E st a w pl fp) : ∀ (cs rs : List AV) (us : List Value), Vals w (Own E st fp) E.w0.heap.size pl cs us [] → R1s st.heap cs rs → (cs.flatMap usedV).Nodup →
    ∃ f, Vals w (Own E st fp) E.w0.heap.size noPl rs us f ∧ f.Nodup ∧ ∀ b ∈ f, ∃ r ∈ cs.flatMap usedV, (st.heap r).isSome = true ∧ b ∈ fp r
  | [], [], us, hv, _, _ => by cases hv; exact ⟨[], .nil, by simp, by simp⟩
  | c :: cs, r :: rs, us, hv, hc, hn => by
    obtain ⟨u, us', rfl, h1, h2⟩ := hv.uncons0
    simp only [List.flatMap_cons] at hn
    obtain ⟨hn1, hn2, hn3⟩ := List.nodup_append.1 hn
    obtain ⟨f1, v1, d1, m1⟩ := closeR1 hR h1 hc.1
    obtain ⟨f2, v2, d2, m2⟩ := closeR1s hR cs rs us' h2 hc.2 hn2
    refine ⟨f1 ++ f2, v1.cons v2, ?_, ?_⟩
    · rw [List.nodup_append]
      refine ⟨d1, d2, fun b hb b' hb' e => ?_⟩
      subst e
      obtain ⟨r, hr, hl, hbr⟩ := m1 b hb
      obtain ⟨r', hr', hl', hbr'⟩ := m2 b hb'
      exact hR.disj r r' b hl hl' (hn3 r hr r' hr') hbr hbr'
    · intro b hb
      simp only [List.flatMap_cons, List.mem_append]
      rcases List.mem_append.1 hb with hb | hb
      · obtain ⟨r, hr, h⟩ := m1 b hb
        exact ⟨r, .inl hr, h⟩
      · obtain ⟨r, hr, h⟩ := m2 b hb
        exact ⟨r, .inr hr, h⟩
  | [], _ :: _, _, _, h, _ => h.elim
  | _ :: _, [], _, _, h, _ => h.elim

theorem R1_one {h : Nat → Option Blk} {v r : AV} (hv : v.one = true) (hr : R1 h v r) : r.one = true := by
  unfold R1 at hr
  split at hr
  · split at hr
    · rfl
    · exact hr.elim
  · rw [hr.2]; rfl
  · rw [hr]; rfl
  · rw [hr.2]; rfl
  · rw [hr.2]; rfl
  · obtain ⟨hk, rfl⟩ := hr
    cases v <;> simp only [closeOk] at hk <;> first | rfl | exact hk.elim | skip
    · rename_i K xs _ _ _ _ _
      cases K <;> simp only [closeOk] at hk <;> first | rfl | exact hk.elim | skip
      subst hk
      rfl
    · rename_i r off len _ _ _ _ _
      cases hb : h r with
      | none => rw [hb] at hk; exact hk.elim
      | some b => simp [closeV, hb, AV.one]

theorem R1s_one {h : Nat → Option Blk} : ∀ (vs rs : List AV), (∀ v ∈ vs, v.one = true) → R1s h vs rs → ∀ r ∈ rs, r.one = true
  | [], [], _, _, r, hr => by simp at hr
  | v :: vs, r :: rs, hv, hr, x, hx => by
    rcases List.mem_cons.1 hx with rfl | hx
    · exact R1_one (hv v (by simp)) hr.1
    · exact R1s_one vs rs (fun v h => hv v (by simp [h])) hr.2 x hx
  | [], _ :: _, _, h, _, _ => h.elim
  | _ :: _, [], _, h, _, _ => h.elim

theorem closeR2 (hR : RelW E st a w pl fp) {c r : AV} {u : Value} (hv : Vals w (Own E st fp) E.w0.heap.size pl [c] [u] []) (hc : R2 st.heap c r) (hn : ((cellsOf c).flatMap usedV).Nodup) :
    ∃ f, Vals w (Own E st fp) E.w0.heap.size noPl [r] [u] f ∧ f.Nodup ∧ ∀ b ∈ f, ∃ r ∈ (cellsOf c).flatMap usedV, (st.heap r).isSome = true ∧ b ∈ fp r := by
  unfold R2 at hc
  split at hc
  · rename_i cs
    split at hc
    · rename_i rs
      obtain ⟨us, rfl, h2, h1⟩ := inv_agg hv
      obtain ⟨f, h3, h4, h5⟩ := closeR1s hR cs rs us h2 hc hn
      refine ⟨f, ?_, h4, h5⟩
      have := Vals.agg (R1s_one cs rs h1 hc) h3 .nil
      simpa using this
    · exact hc.elim
  · rename_i hna
    obtain ⟨f, h1, h2, h3⟩ := closeR1 hR hv hc
    refine ⟨f, h1, h2, fun b hb => ?_⟩
    obtain ⟨r, hr, h⟩ := h3 b hb
    refine ⟨r, ?_, h⟩
    cases c with
    | agg cs => exact absurd rfl (hna cs)
    | _ => simpa [cellsOf] using hr

theorem closeR2s (hR : RelW E st a w pl fp) : ∀ (cs rs : List AV) (us : List Value), Vals w (Own E st fp) E.w0.heap.size pl cs us [] → R2s st.heap cs rs → (usedE cs).Nodup →
    ∃ f, Vals w (Own E st fp) E.w0.heap.size noPl rs us f ∧ f.Nodup ∧ ∀ b ∈ f, ∃ r ∈ usedE cs, (st.heap r).isSome = true ∧ b ∈ fp r
  | [], [], us, hv, _, _ => by cases hv; exact ⟨[], .nil, by simp, by simp⟩
  | c :: cs, r :: rs, us, hv, hc, hn => by
    obtain ⟨u, us', rfl, h1, h2⟩ := hv.uncons0
    simp only [usedE, flat_cons, List.flatMap_append] at hn
    obtain ⟨hn1, hn2, hn3⟩ := List.nodup_append.1 hn
    obtain ⟨f1, v1, d1, m1⟩ := closeR2 hR h1 hc.1 hn1
    obtain ⟨f2, v2, d2, m2⟩ := closeR2s hR cs rs us' h2 hc.2 hn2
    refine ⟨f1 ++ f2, v1.cons v2, ?_, ?_⟩
    · rw [List.nodup_append]
      refine ⟨d1, d2, fun b hb b' hb' e => ?_⟩
      subst e
      obtain ⟨r, hr, hl, hbr⟩ := m1 b hb
      obtain ⟨r', hr', hl', hbr'⟩ := m2 b hb'
      exact hR.disj r r' b hl hl' (hn3 r hr r' hr') hbr hbr'
    · intro b hb
      simp only [usedE, flat_cons, List.flatMap_append, List.mem_append]
      rcases List.mem_append.1 hb with hb | hb
      · obtain ⟨r, hr, h⟩ := m1 b hb
        exact ⟨r, .inl hr, h⟩
      · obtain ⟨r, hr, h⟩ := m2 b hb
        exact ⟨r, .inr hr, h⟩
  | [], _ :: _, _, _, h, _ => h.elim
  | _ :: _, [], _, _, h, _ => h.elim

def res1F (a : Act) : ResultVar → Sem Value
  | .tmp t => pure (a.tmps.getD t undef)
  | .cell b t => do loadVar t (← asAddr (a.tmps.getD b undef))
theorem res1_run (hR : RelW E st a w pl fp) {x : ResultVar} {r : ARes} (hc : chkR E.P x r = true) (hp : pop st 0 r.op) :
    ∃ u, (res1F a x).run E.P w = .ok u w ∧ Vals w (Own E st fp) E.w0.heap.size pl [vop st 0 r.op] [u] [] := by
  cases x with
  | tmp t =>
    cases r <;> simp [chkR] at hc
    subst hc
    exact ⟨_, rfl, opr_sound hR (x := .tmp t) (y := .t t) (by simp [chkX]) hp⟩
  | cell b t =>
    cases r <;> simp only [chkR, Bool.and_eq_true, beq_iff_eq] at hc
    · cases hc
    · rename_i t' n ag
      obtain ⟨⟨rfl, h1⟩, h2⟩ := hc
      obtain ⟨u, hr, hv⟩ := g_load (k := 0) (o := { (default : Oper) with op := .load t (.tmp b) }) hR rfl (x' := .t b) (by simp [chkX]) h1 h2 hp
      refine ⟨u, ?_, hv⟩
      have hea : a.eval (.tmp b) = a.tmps.getD b undef := rfl
      simp only [execOp, Instr.loadAt, hea] at hr
      revert hr
      show _ → (do loadVar t (← asAddr (a.tmps.getD b undef)) : Sem Value).run E.P w = _
      generalize a.tmps.getD b undef = A
      intro hr
      cases A with
      | pointer p =>
        cases p with
        | none => simp [Instr.sureAddr] at hr
        | some p =>
          simp only [asAddr, Instr.sureAddr, Sem.run_bind, Sem.run_pure, Result.andThen_ok] at hr ⊢
          cases hl : (loadVar t p).run E.P w with
          | ok x w1 => rw [hl] at hr; simp at hr; rw [hr.1, hr.2]
          | halt x w1 => rw [hl] at hr; simp at hr
      | _ => simp [Instr.sureAddr] at hr

theorem res_run (hR : RelW E st a w pl fp) : ∀ (xs : List ResultVar) (rs : List ARes), chkRs E.P xs rs = true → resP st rs →
    ∃ us, (xs.mapM (res1F a)).run E.P w = .ok us w ∧ Vals w (Own E st fp) E.w0.heap.size pl (resV st rs) us []
  | [], [], _, _ => ⟨[], by simp, .nil⟩
  | x :: xs, r :: rs, hc, hp => by
    simp only [chkRs, Bool.and_eq_true] at hc
    obtain ⟨u, h1, h2⟩ := res1_run hR hc.1 hp.1
    obtain ⟨us, h3, h4⟩ := res_run hR xs rs hc.2 hp.2
    refine ⟨u :: us, ?_, h2.cons h4⟩
    rw [List.mapM_cons]
    simp only [Sem.run_bind, h1, Result.andThen_ok, h3, Sem.run_pure]
  | [], _ :: _, h, _ => by simp [chkRs] at h
  | _ :: _, [], h, _ => by simp [chkRs] at h

theorem results_run (hR : RelW E st a w pl fp) {fn : Func} {rs : List ARes} {r : AV} (hc : chkRs E.P fn.results.toList rs = true) (hr : resOk st rs r) :
    ∃ v f, (results fn a.tmps).run E.P w = .ok v w ∧ Vals w (Own E st fp) E.w0.heap.size noPl [r] [v] f ∧ f.Nodup ∧ ∀ b ∈ f, ∃ r, (st.heap r).isSome = true ∧ b ∈ fp r := by
  obtain ⟨hp, hn, hm⟩ := hr
  obtain ⟨us, h1, h2⟩ := res_run hR _ _ hc hp
  have hrun : ∀ v, (if h : us.toArray.size = 1 then us.toArray[0] else .tuple us.toArray) = v → (results fn a.tmps).run E.P w = .ok v w := by
    intro v hv
    show ((fn.results.mapM (res1F a)) >>= fun vs => pure (if h : vs.size = 1 then vs[0] else .tuple vs)).run E.P w = _
    rw [Array.mapM_eq_mapM_toList]
    simp [h1]
    simpa using hv
  split at hm
  · rename_i v e
    rw [e] at h2 hn
    obtain ⟨u, us', hus, h3, h4⟩ := h2.uncons0
    cases h4
    subst hus
    obtain ⟨f, h5, h6, h7⟩ := closeR2 hR h3 hm (by simpa [usedE, flat] using hn)
    exact ⟨u, f, hrun u (by simp), h5, h6, fun b hb => let ⟨r, _, h⟩ := h7 b hb; ⟨r, h⟩⟩
  · rename_i hne
    split at hm
    · rename_i rs'
      obtain ⟨f, h5, h6, h7⟩ := closeR2s hR _ _ _ h2 hm hn
      refine ⟨.tuple us.toArray, f, hrun _ ?_, ?_, h6, fun b hb => let ⟨r, _, h⟩ := h7 b hb; ⟨r, h⟩⟩
      · have hl := h2.length
        rw [dif_neg]
        simp only [List.size_toArray, hl]
        intro h
        obtain ⟨v, e⟩ := List.length_eq_one_iff.1 h
        exact hne v e
      · have := Vals.tup h5 .nil
        simpa using this
    · exact hm.elim
end
end Go.Amb

set_option linter.unusedSimpArgs false
set_option linter.unusedVariables false
namespace Go.Amb
open Go Go.RowKit

/-- One cell told otherwise. -/
def conv (emp : Nat → Prop) (v v' : AV) : Prop :=
  v' = v ∨ (v = .sl .ext [] ∧ match v' with | .hdr r 0 0 => emp r | .sl _ [] => True | _ => False)
def convs (emp : Nat → Prop) : List AV → List AV → Prop
  | [], [] => True
  | v :: vs, v' :: vs' => conv emp v v' ∧ convs emp vs vs'
  | _, _ => False
def conv2 (emp : Nat → Prop) (v v' : AV) : Prop :=
  match v, v' with
  | .agg cs, .agg cs' => convs emp cs cs'
  | v, v' => conv emp v v'
def conv2s (emp : Nat → Prop) : List AV → List AV → Prop
  | [], [] => True
  | v :: vs, v' :: vs' => conv2 emp v v' ∧ conv2s emp vs vs'
  | _, _ => False

section
variable {emp : Nat → Prop}
theorem convs_refl : ∀ vs, convs emp vs vs
  | [] => trivial
  | v :: vs => ⟨.inl rfl, convs_refl vs⟩
theorem conv_one {v v' : AV} (h : conv emp v v') : v'.one = v.one := by
  rcases h with rfl | ⟨rfl, h⟩
  · rfl
  · split at h
    · rfl
    · rfl
    · exact h.elim
theorem convs_length : ∀ (vs vs' : List AV), convs emp vs vs' → vs'.length = vs.length
  | [], [], _ => rfl
  | _ :: vs, _ :: vs', h => by simp [convs_length vs vs' h.2]
  | [], _ :: _, h => h.elim
  | _ :: _, [], h => h.elim
theorem convs_one : ∀ (vs vs' : List AV), convs emp vs vs' → (∀ v ∈ vs, v.one = true) → ∀ v ∈ vs', v.one = true
  | [], [], _, _, v, hv => by simp at hv
  | x :: vs, y :: vs', h, h1, v, hv => by
    rcases List.mem_cons.1 hv with rfl | hv
    · rw [conv_one h.1]; exact h1 x (by simp)
    · exact convs_one vs vs' h.2 (fun z hz => h1 z (by simp [hz])) v hv
  | [], _ :: _, h, _, _, _ => h.elim
  | _ :: _, [], h, _, _, _ => h.elim
theorem convs_append : ∀ {a a' b b' : List AV}, convs emp a a' → convs emp b b' → convs emp (a ++ b) (a' ++ b')
  | [], [], _, _, _, h => h
  | _ :: _, _ :: _, _, _, h1, h => ⟨h1.1, convs_append h1.2 h⟩
  | [], _ :: _, _, _, h, _ => h.elim
  | _ :: _, [], _, _, h, _ => h.elim
theorem conv2_cells {v v' : AV} (h : conv2 emp v v') : convs emp (cellsOf v) (cellsOf v') := by
  unfold conv2 at h
  split at h
  · exact h
  · rename_i hn
    rcases h with rfl | ⟨rfl, h⟩
    · exact convs_refl _
    · split at h
      · exact ⟨.inr ⟨rfl, h⟩, trivial⟩
      · exact ⟨.inr ⟨rfl, trivial⟩, trivial⟩
      · exact h.elim
theorem conv2s_flat : ∀ (vs vs' : List AV), conv2s emp vs vs' → convs emp (flat vs) (flat vs')
  | [], [], _ => trivial
  | v :: vs, v' :: vs', h => by rw [flat_cons, flat_cons]; exact convs_append (conv2_cells h.1) (conv2s_flat vs vs' h.2)
  | [], _ :: _, h => h.elim
  | _ :: _, [], h => h.elim
theorem conv2s_length : ∀ (vs vs' : List AV), conv2s emp vs vs' → vs'.length = vs.length
  | [], [], _ => rfl
  | _ :: vs, _ :: vs', h => by simp [conv2s_length vs vs' h.2]
  | [], _ :: _, h => h.elim
  | _ :: _, [], h => h.elim
theorem conv2s_unit {sz : Nat} : ∀ (vs vs' : List AV), conv2s emp vs vs' → (∀ v ∈ vs, (cellsOf v).length = sz) → ∀ v ∈ vs', (cellsOf v).length = sz
  | [], [], _, _, v, hv => by simp at hv
  | x :: vs, y :: vs', h, h1, v, hv => by
    rcases List.mem_cons.1 hv with rfl | hv
    · rw [convs_length _ _ (conv2_cells h.1)]; exact h1 x (by simp)
    · exact conv2s_unit vs vs' h.2 (fun z hz => h1 z (by simp [hz])) v hv
  | [], _ :: _, h, _, _, _ => h.elim
  | _ :: _, [], h, _, _, _ => h.elim

theorem conv_vals {w : World} {O O' : Nat → Prop} {B : Nat} {pl pl' : Pls} (hO : ∀ b, b < w.heap.size → ¬ O b → ¬ O' b) (hp : ∀ r p, pl r = some p → pl' r = some p) (he : ∀ r, emp r → ∃ j sz, pl' r = some ⟨none, j, sz, 0⟩)
    {v v' : AV} {u : Value} {fp : List Nat} (hv : Vals w O B pl [v] [u] fp) (h : conv emp v v') : Vals w O' B pl' [v'] [u] fp := by
  rcases h with rfl | ⟨rfl, h⟩
  · exact hv.shift (fun _ _ _ => rfl) (Nat.le_refl _) hO pl' hp
  · cases hv with
    | sle hk hc t =>
      have := hc rfl
      subst this
      cases t
      split at h
      · obtain ⟨j, sz, e⟩ := he _ h
        exact .hdre e .nil
      · rename_i K
        cases K with
        | own sz => exact .owe .nil
        | _ => exact .sle rfl (fun _ => rfl) .nil
      · exact h.elim
    | slf hk hx _ _ _ _ _ _ _ _ _ => exact absurd rfl hx
    | slx hx _ _ _ _ _ _ _ _ => exact absurd rfl hx
theorem convs_vals {w : World} {O O' : Nat → Prop} {B : Nat} {pl pl' : Pls} (hO : ∀ b, b < w.heap.size → ¬ O b → ¬ O' b) (hp : ∀ r p, pl r = some p → pl' r = some p) (he : ∀ r, emp r → ∃ j sz, pl' r = some ⟨none, j, sz, 0⟩) :
    ∀ (vs vs' : List AV) (us : List Value) (fp : List Nat), Vals w O B pl vs us fp → convs emp vs vs' → Vals w O' B pl' vs' us fp
  | [], [], us, fp, hv, _ => by cases hv; exact .nil
  | v :: vs, v' :: vs', us, fp, hv, h => by
    obtain ⟨u, us', f1, f2, rfl, rfl, h1, h2⟩ := hv.uncons
    exact (conv_vals hO hp he h1 h.1).cons (convs_vals hO hp he vs vs' us' f2 h2 h.2)
  | [], _ :: _, _, _, _, h => h.elim
  | _ :: _, [], _, _, _, h => h.elim
theorem conv2_vals {w : World} {O O' : Nat → Prop} {B : Nat} {pl pl' : Pls} (hO : ∀ b, b < w.heap.size → ¬ O b → ¬ O' b) (hp : ∀ r p, pl r = some p → pl' r = some p) (he : ∀ r, emp r → ∃ j sz, pl' r = some ⟨none, j, sz, 0⟩)
    {v v' : AV} {u : Value} (hv : Vals w O B pl [v] [u] []) (h : conv2 emp v v') : Vals w O' B pl' [v'] [u] [] := by
  unfold conv2 at h
  split at h
  · obtain ⟨us, rfl, h2, h1⟩ := inv_agg hv
    have := Vals.agg (convs_one _ _ h h1) (convs_vals hO hp he _ _ _ _ h2 h) .nil
    simpa using this
  · exact conv_vals hO hp he hv h
end

theorem mkT_mem {t : List (Nat × AV)} {d : Nat} (h : mkT t d ≠ .undef) : (d, mkT t d) ∈ t := by
  induction t with
  | nil => exact absurd rfl h
  | cons p t ih =>
    obtain ⟨e, v⟩ := p
    simp only [mkT, tupd] at h ⊢
    split
    · rename_i hd; subst hd; simp
    · rename_i hd; rw [if_neg hd] at h; exact List.mem_cons_of_mem _ (ih h)
theorem mkH_mem {t : List (Nat × Blk)} {r : Nat} {b : Blk} (h : mkH t r = some b) : (r, b) ∈ t := by
  induction t with
  | nil => cases h
  | cons p t ih =>
    obtain ⟨e, v⟩ := p
    simp only [mkH, hupd] at h
    split at h
    · rename_i hd; injection h with h; subst hd h; simp
    · exact List.mem_cons_of_mem _ (ih h)

/-- The empty roots that are new. -/
def newEmp (st : St) (h : List (Nat × Blk)) (r : Nat) : Prop := st.us r = false ∧ ∃ b, mkH h r = some b ∧ b.es = [] ∧ b.box = false ∧ 0 < b.sz
def heapFit (st : St) (h : List (Nat × Blk)) (n r : Nat) (b : Blk) : Prop :=
  r < n ∧ ((match st.heap r with | some b0 => b0.sz = b.sz ∧ b0.box = b.box ∧ (if b.box then conv2s (newEmp st h) b0.es b.es else b0.es = b.es) | none => False) ∨ (st.us r = false ∧ b.es = [] ∧ b.box = false ∧ 0 < b.sz))

theorem Fit.mk {st : St} (t : List (Nat × AV)) (h : List (Nat × Blk)) (n : Nat) (ht : ∀ p ∈ t, (st.tmp p.1).ok ∧ conv2 (newEmp st h) (st.tmp p.1).strip p.2) (hh : ∀ p ∈ h, heapFit st h n p.1 p.2) (hu : ∀ r, st.us r = true → r < n) : Fit st (mkS t h n) := by
  rintro E a w ⟨pl, fp, hR⟩
  classical
  let szOf : Nat → Nat := fun r => ((mkH h r).getD ⟨0, false, []⟩).sz
  let pl' : Pls := fun r => if newEmp st h r then some ⟨none, 0, szOf r, 0⟩ else pl r
  let fp' : Nat → List Nat := fun r => if (st.heap r).isSome then fp r else []
  have hempn : ∀ r, newEmp st h r → pl r = none := fun r he => hR.unused r he.1
  have hp : ∀ r p, pl r = some p → pl' r = some p := by
    intro r p hr
    have : ¬ newEmp st h r := fun he => by rw [hempn r he] at hr; cases hr
    simp only [pl', if_neg this]; exact hr
  have he : ∀ r, newEmp st h r → ∃ j sz, pl' r = some ⟨none, j, sz, 0⟩ := fun r he => ⟨0, szOf r, by simp only [pl', if_pos he]⟩
  have hlive : ∀ r b, mkH h r = some b → (∃ b0, st.heap r = some b0 ∧ b0.sz = b.sz ∧ b0.box = b.box ∧ (if b.box then conv2s (newEmp st h) b0.es b.es else b0.es = b.es)) ∨ (newEmp st h r ∧ st.heap r = none ∧ b.es = [] ∧ 0 < b.sz) := by
    intro r b hb
    rcases (hh (r, b) (mkH_mem hb)).2 with h1 | ⟨h1, h2, h3, h4⟩
    · cases hs : st.heap r with
      | none => simp only [hs] at h1
      | some b0 => simp only [hs] at h1; exact .inl ⟨b0, rfl, h1⟩
    · refine .inr ⟨⟨h1, b, hb, h2, h3, h4⟩, ?_, h2, h4⟩
      cases hs : st.heap r with
      | none => rfl
      | some b0 => have := hR.used r (by simp [hs]); rw [h1] at this; cases this
  have hlt : ∀ r b, mkH h r = some b → r < n := fun r b hb => (hh (r, b) (mkH_mem hb)).1
  have hfp : ∀ r b, mkH h r = some b → ∀ x ∈ fp' r, (st.heap r).isSome = true ∧ x ∈ fp r := by
    intro r b hb x hx
    by_cases hs : (st.heap r).isSome = true
    · simp only [fp', if_pos hs] at hx; exact ⟨hs, hx⟩
    · simp only [fp', if_neg hs] at hx; cases hx
  have hO : ∀ b, b < w.heap.size → ¬ Own E st fp b → ¬ Own E (mkS t h n) fp' b := by
    rintro b _ hn (hx | ⟨r, hr, hbr⟩)
    · exact hn (.inl hx)
    · obtain ⟨blk, hb⟩ := Option.isSome_iff_exists.1 hr
      exact hn (.inr ⟨r, hfp r blk hb b hbr⟩)
  refine ⟨pl', fp', ?_⟩
  exact
    { size := hR.size, defers := hR.defers
      plx := fun r hr => by
        have : ¬ newEmp st h r := fun he => by have := hR.usnb r hr; rw [he.1] at this; cases this
        simp only [pl', if_neg this]; exact hR.plx r hr
      unused := fun r hr => by
        have hr' : ¬ r < n := by simpa [mkS] using hr
        have hus : st.us r = false := by
          cases hx : st.us r with
          | false => rfl
          | true => exact absurd (hu r hx) hr'
        have : ¬ newEmp st h r := fun he => by obtain ⟨_, b, hb, _⟩ := he; exact hr' (hlt r b hb)
        simp only [pl', if_neg this]; exact hR.unused r hus
      used := fun r hr => by
        obtain ⟨b, hb⟩ := Option.isSome_iff_exists.1 hr
        simpa [mkS] using hlt r b hb
      usnb := fun r hr => by simpa [mkS] using hu r (hR.usnb r hr)
      roots := fun r blk hb => by
        rcases hlive r blk hb with ⟨b0, hs, h1, h2, h3⟩ | ⟨hemp, hs, h1, h2⟩
        · have hfr : fp' r = fp r := by simp only [fp', hs]; rfl
          rw [hfr]
          have hroot := hR.roots r b0 hs
          obtain ⟨bsz, bbox, bes⟩ := b0
          obtain ⟨csz, cbox, ces⟩ := blk
          simp only at h1 h2 h3
          subst h1 h2
          cases bbox with
          | false =>
            simp only [Bool.false_eq_true, if_false] at h3
            subst h3
            exact hroot.move (fun _ _ _ => rfl) (Nat.le_refl _) hO (Nat.le_refl _) hp
          | true =>
            simp only [if_true] at h3
            generalize hfr' : fp r = F at hroot ⊢
            cases hroot with
            | emp hh1 he1 hz =>
              simp only at he1
              subst he1
              have : ces = [] := List.length_eq_zero_iff.1 (conv2s_length _ _ h3)
              subst this
              exact .emp (hp _ _ hh1) rfl hz
            | blk hh1 hr hl hz hu1 ho1 hn hc ha =>
              refine .blk (hp _ _ hh1) hr hl hz (conv2s_unit _ _ h3 hu1) (convs_one _ _ (conv2s_flat _ _ h3) ho1) (by rw [conv2s_length _ _ h3]; exact hn) ?_ ha
              simp only [if_true] at hc ⊢
              exact convs_vals hO hp he _ _ _ _ hc (conv2s_flat _ _ h3)
        · have hfr : fp' r = [] := by simp only [fp', hs]; rfl
          rw [hfr]
          refine .emp (j := 0) ?_ h1 h2
          simp only [pl', if_pos hemp]
          have : szOf r = blk.sz := by
            have hb' : mkH h r = some blk := hb
            simp only [szOf, hb']; rfl
          rw [this]
      nodup := fun r hr => by
        by_cases hs : (st.heap r).isSome = true
        · simp only [fp', if_pos hs]; exact hR.nodup r hs
        · simp only [fp', if_neg hs]; exact List.nodup_nil
      own := fun r hr b hb => by
        obtain ⟨blk, hblk⟩ := Option.isSome_iff_exists.1 hr
        obtain ⟨h1, h2⟩ := hfp r blk hblk b hb
        exact hR.own r h1 b h2
      disj := fun r r' b hr hr' hne hb hb' => by
        obtain ⟨blk, hblk⟩ := Option.isSome_iff_exists.1 hr
        obtain ⟨blk', hblk'⟩ := Option.isSome_iff_exists.1 hr'
        obtain ⟨h1, h2⟩ := hfp r blk hblk b hb
        obtain ⟨h3, h4⟩ := hfp r' blk' hblk' b hb'
        exact hR.disj r r' b h1 h3 hne h2 h4
      xold := hR.xold, gold := hR.gold
      tmps := fun d hd => by
        have hm := ht _ (mkT_mem hd)
        have hne : st.tmp d ≠ .undef := by intro e; have := hm.1; simp only [e] at this; exact this
        obtain ⟨u, h1, h2⟩ := hR.tmps d hne
        exact ⟨u, h1, conv2_vals hO hp he (strip_vals h2 hm.1) hm.2⟩
      keeps := hR.keeps }

/-! ### a contract, of the walk -/
theorem mkT_arg : ∀ (args : List AV) (i d : Nat), mkT (argT i args) d ≠ .undef → i ≤ d ∧ args[d - i]? = some (mkT (argT i args) d)
  | [], i, d, h => absurd rfl h
  | v :: vs, i, d, h => by
    simp only [argT, mkT, tupd] at h ⊢
    split
    · rename_i hd; subst hd; simp
    · rename_i hd
      rw [if_neg hd] at h
      obtain ⟨h1, h2⟩ := mkT_arg vs (i + 1) d h
      refine ⟨by omega, ?_⟩
      have : d - i = (d - (i + 1)) + 1 := by omega
      rw [this, List.getElem?_cons_succ]
      exact h2

theorem acall_of {P : Program} {f : Nat} {fn : Func} {c : Code} {ac : ACode} {rs : List ARes} {args : List AV} {Q : AV → Prop} (hf : P.funcs[f]? = some fn) (hb : fn.body = some c) (hn : (fn.name != "runtime.NumGoroutine") = true)
    (hc : chkCode P fn.ntmps c ac = true) (hr : chkRs P fn.results.toList rs = true) (hlen : args.length ≤ fn.ntmps) (h : AW P fn.ntmps ac (mkS (argT 0 args) [] 0) (retQ rs Q)) : ACall P f args Q := by
  refine ⟨?_, fun w X us hX hv => ?_⟩
  · unfold bodied
    rw [hf]
    simp only [hb, Option.isSome_some, Bool.true_and]
    exact hn
  · refine calls_of_wp hf hb ?_
    let E : Env := ⟨P, fn.ntmps, w, X, fun _ => False, noPl, 0⟩
    have hul : us.length = args.length := hv.length
    have hOwn : ∀ b, ¬ X b → ¬ Own E (mkS (argT 0 args) [] 0) (fun _ => []) b := by
      rintro b hn (hx | ⟨r, hr, hb⟩)
      · exact hn hx
      · cases hb
    have hR : Rel E (mkS (argT 0 args) [] 0) { tmps := us.toArray ++ Array.replicate (fn.ntmps - us.toArray.size) undef, defers := [] } w := by
      refine ⟨noPl, fun _ => [], ?_⟩
      exact
        { size := by simp [E]; omega
          defers := rfl
          plx := fun r hr => rfl
          unused := fun r _ => rfl
          used := fun r hr => by cases hr
          usnb := fun r hr => by cases hr
          roots := fun r blk hb => by cases hb
          nodup := fun r hr => by cases hr
          own := fun r hr => by cases hr
          disj := fun r r' b hr => by cases hr
          xold := fun b hb => hX b hb, gold := fun b hb => hb.elim
          tmps := fun d hd => by
            obtain ⟨_, h1⟩ := mkT_arg args 0 d hd
            obtain ⟨u, h2, h3⟩ := hv.get0 _ _ h1
            refine ⟨u, ?_, h3.shift (fun _ _ _ => rfl) (Nat.le_refl _) (fun b _ hn => hOwn b hn) noPl (fun _ _ h => h)⟩
            simp only [Nat.sub_zero] at h2
            have hlt : d < us.length := (List.getElem?_eq_some_iff.1 h2).1
            rw [Array.getElem?_append_left (by simpa using hlt)]
            simpa using h2
          keeps := ⟨rfl, rfl, rfl, Nat.le_refl _, fun _ _ _ => rfl⟩ }
    refine wp_mono (h c hc E _ w rfl rfl hR) ?_
    rintro e a' w' ⟨e', he, s, hq, pl, fp, hR'⟩
    have fin : (∃ r, Q r ∧ resOk s rs r) → a'.defers = [] ∧ ∃ v, (results fn a'.tmps).run P w' = .ok v w' ∧ Back w X Q (.returned v) w' := by
      rintro ⟨r, hQ, hres⟩
      obtain ⟨v, f, h1, h2, h3, h4⟩ := results_run hR' hr hres
      refine ⟨hR'.defers, v, h1, r, f, hQ, ?_, h3, fun b hb => ?_, hR'.keeps⟩
      · refine h2.shift (fun _ _ _ => rfl) (Nat.le_refl _) (fun b _ hn => ?_) noPl (fun _ _ h => h)
        rintro (hx | hf)
        · exact hn (.inl hx)
        · exact hn (.inr (h4 b hf))
      · obtain ⟨r', hr', hb'⟩ := h4 b hb
        obtain ⟨h5, h6, _⟩ := hR'.own r' hr' b hb'
        exact ⟨h6.resolve_right (fun h => h), h5⟩
    cases e <;> simp only [AE.of, reduceCtorEq] at he <;> injection he with he <;> subst he
    · exact fin hq
    · exact hq.elim
    · exact fin hq
end Go.Amb

set_option linter.unusedVariables false
set_option linter.unusedSimpArgs false
namespace Go.Amb
open Go

section
variable {P : Program} {i : AI} {is : List AI} {t : List (Nat × AV)} {h : Nat → Option Blk} {n : Nat} {u : Nat → Bool} {K : St → Prop} {d : Nat} {v : AV}

/-- A quiet operation. -/
theorem evQ (hq : i.op.quiet = true) (hg : i.g = none) (hd : i.dst = some d) (hv : vop ⟨mkT t, h, n, u⟩ i.k i.op = v) (hp : pop ⟨mkT t, h, n, u⟩ i.k i.op) (hk : evIs P is ⟨mkT ((d, v) :: t), h, n, u⟩ K) :
    evIs P (i :: is) ⟨mkT t, h, n, u⟩ K := by
  refine .inl ?_
  show ev1 P i _ _
  rw [ev1_quiet hq]
  unfold ok1 val1
  rw [hg, hd]
  exact ⟨hp, by subst hv; exact hk⟩
/-- A quiet operation under a guard. -/
theorem evG {s : Nat} {b c : Bool} (hq : i.op.quiet = true) (hg : i.g = some (s, b)) (hd : i.dst = some d) (hc : gcond ⟨mkT t, h, n, u⟩ s b = c) (hv : vop ⟨mkT t, h, n, u⟩ i.k i.op = v)
    (hk : gok ⟨mkT t, h, n, u⟩ s) (hp : c = true → pop ⟨mkT t, h, n, u⟩ i.k i.op) (hr : evIs P is ⟨mkT ((d, .grd c v) :: t), h, n, u⟩ K) : evIs P (i :: is) ⟨mkT t, h, n, u⟩ K := by
  refine .inl ?_
  show ev1 P i _ _
  rw [ev1_quiet hq]
  unfold ok1 val1
  rw [hg, hd]
  subst hc hv
  exact ⟨⟨hk, hp⟩, hr⟩
/-- An operation under a guard that does not hold. -/
theorem evF {s : Nat} {b : Bool} (hg : i.g = some (s, b)) (hd : i.dst = some d) (hc : gcond ⟨mkT t, h, n, u⟩ s b = false) (hk : gok ⟨mkT t, h, n, u⟩ s) (hr : evIs P is ⟨mkT ((d, .grd false .undef) :: t), h, n, u⟩ K) :
    evIs P (i :: is) ⟨mkT t, h, n, u⟩ K := by
  refine .inr ?_
  unfold evSkip
  rw [hg, hd]
  exact ⟨hk, hc, hr⟩
/-- An operation under a guard that holds. -/
theorem evT1 {s : Nat} {b : Bool} (hg : i.g = some (s, b)) (hc : gcond ⟨mkT t, h, n, u⟩ s b = true) (hq : i.op.quiet = false) (hk : gok ⟨mkT t, h, n, u⟩ s) (hr : evIs P ({ i with g := none } :: is) ⟨mkT t, h, n, u⟩ K) :
    evIs P (i :: is) ⟨mkT t, h, n, u⟩ K := by
  refine .inl ?_
  show ev1 P i _ _
  unfold ev1
  rw [hg]
  refine ⟨hk, ?_⟩
  rw [if_neg (by simp [hq])]
  refine ⟨fun _ => ?_, fun hh => absurd (hc.symm.trans hh) (by simp)⟩
  exact hr.elim (fun h => h) (fun h => h.elim)
/-- A call that returns one value, which is frozen. -/
theorem evC {f : Nat} {args : List AOpr} {vs vs' : List AV} {r r' : AV} (hop : i.op = .call f args) (hg : i.g = none) (hd : i.dst = some d) (had : i.ad = false) (hvs : args.map (St.val ⟨mkT t, h, n, u⟩) = vs) (hvs' : vs.map (fzA h) = vs')
    (hA : ACall P f vs' (· = r)) (hr : clC r = r') (ho : ∀ x ∈ args, St.ok ⟨mkT t, h, n, u⟩ x) (hcl : okAs noF noF vs ∨ (okAs (okB h) (okQ h) vs ∧ sc r = true)) (hk : evIs P is ⟨mkT ((d, r') :: t), h, n, u⟩ K) :
    evIs P (i :: is) ⟨mkT t, h, n, u⟩ K := by
  refine .inl ?_
  show ev1 P i _ _
  unfold ev1
  rw [hg]
  show evOp P i _ _
  unfold evOp
  rw [hop]
  subst hvs hvs' hr
  refine ⟨ho, .inl ⟨(· = r), hA, ?_⟩⟩
  have hret : retK i ⟨mkT t, h, n, u⟩ (fun st' => evIs P is st' K) r := by
    unfold retK
    rw [had, if_neg (by simp), hd]
    exact hk
  rcases hcl with hcl | hcl
  · exact .inl ⟨hcl, fun x hx => hx ▸ hret⟩
  · exact .inr ⟨hcl.1, fun x hx => hx ▸ ⟨hcl.2, hret⟩⟩
theorem evCv {f : Nat} {x : AOpr} {caps : List AV} {args : List AOpr} {vs vs' : List AV} {r r' : AV} (hop : i.op = .callv x args) (hg : i.g = none) (hd : i.dst = some d) (had : i.ad = false) (hx : St.val ⟨mkT t, h, n, u⟩ x = .fn f caps) (hvs : args.map (St.val ⟨mkT t, h, n, u⟩) ++ caps = vs) (hvs' : vs.map (fzA h) = vs')
    (hA : ACall P f vs' (· = r)) (hr : clC r = r') (hox : St.ok ⟨mkT t, h, n, u⟩ x) (ho : ∀ x ∈ args, St.ok ⟨mkT t, h, n, u⟩ x) (hcl : okAs noF noF vs ∨ (okAs (okB h) (okQ h) vs ∧ sc r = true)) (hk : evIs P is ⟨mkT ((d, r') :: t), h, n, u⟩ K) :
    evIs P (i :: is) ⟨mkT t, h, n, u⟩ K := by
  refine .inl ?_
  show ev1 P i _ _
  unfold ev1
  rw [hg]
  show evOp P i _ _
  unfold evOp
  rw [hop]
  subst hvs hvs' hr
  refine ⟨hox, ho, ?_⟩
  simp only [hx]
  refine .inl ⟨(· = r), hA, ?_⟩
  have hret : retK i ⟨mkT t, h, n, u⟩ (fun st' => evIs P is st' K) r := by
    unfold retK
    rw [had, if_neg (by simp), hd]
    exact hk
  rcases hcl with hcl | hcl
  · exact .inl ⟨hcl, fun x hx => hx ▸ hret⟩
  · exact .inr ⟨hcl.1, fun x hx => hx ▸ ⟨hcl.2, hret⟩⟩
/-- A call whose result becomes a root. -/
theorem evCa {f sz R : Nat} {args : List AOpr} {vs vs' xs : List AV} (hop : i.op = .call f args) (hg : i.g = none) (hd : i.dst = some d) (had : i.ad = true) (hR : n + i.k = R) (hvs : args.map (St.val ⟨mkT t, h, n, u⟩) = vs) (hvs' : vs.map (fzA h) = vs')
    (hA : ACall P f vs' (· = .sl (.own sz) xs)) (ho : ∀ x ∈ args, St.ok ⟨mkT t, h, n, u⟩ x)
    (hcl : okAs noF noF vs ∨ (okAs (okB h) (okQ h) vs ∧ scs xs = true)) (hu : u R = false) (hz : 0 < sz) (hk : evIs P is ⟨mkT ((d, .hdr R 0 xs.length) :: t), hupd h R (some ⟨sz, false, xs⟩), n, uupd u R⟩ K) : evIs P (i :: is) ⟨mkT t, h, n, u⟩ K := by
  refine .inl ?_
  show ev1 P i _ _
  unfold ev1
  rw [hg]
  show evOp P i _ _
  unfold evOp
  rw [hop]
  subst hvs hvs' hR
  refine ⟨ho, .inl ⟨_, hA, ?_⟩⟩
  have hret : retK i ⟨mkT t, h, n, u⟩ (fun st' => evIs P is st' K) (.sl (.own sz) xs) := by
    unfold retK
    rw [had, if_pos rfl]
    refine ⟨hu, hz, ?_⟩
    rw [hd]
    exact hk
  rcases hcl with hcl | hcl
  · exact .inl ⟨hcl, fun x hx => hx ▸ hret⟩
  · exact .inr ⟨hcl.1, fun x hx => hx ▸ ⟨hcl.2, hret⟩⟩
/-- New memory. -/
theorem evM {blk : Blk} {R : Nat} (hq : (match i.op with | .alloc .. | .box .. => true | _ => false) = true) (hg : i.g = none) (hd : i.dst = some d) (hR : n + i.k = R) (hb : rop ⟨mkT t, h, n, u⟩ i.op = some blk)
    (hp : pop ⟨mkT t, h, n, u⟩ i.k i.op) (hk : evIs P is ⟨mkT ((d, .ptr R 0 0) :: t), hupd h R (some blk), n, uupd u R⟩ K) : evIs P (i :: is) ⟨mkT t, h, n, u⟩ K := by
  subst hR
  refine .inl ?_
  show ev1 P i _ _
  unfold ev1
  rw [hg]
  show evOp P i _ _
  revert hb hp hq
  unfold evOp
  cases i.op <;> intro hq hb hp <;> first | (simp at hq; done) | skip
  · refine ⟨hp, ?_⟩
    rw [hb, hd]
    exact hk
  · refine ⟨hp, ?_⟩
    rw [hb, hd]
    exact hk
theorem evAp {sz bytes R : Nat} {s x : AOpr} {S X : AV} {h' : Nat → Option Blk} {m : Nat} (hop : i.op = .app sz bytes s x) (hg : i.g = none) (hd : i.dst = some d) (hR : n + i.k = R) (hs : St.val ⟨mkT t, h, n, u⟩ s = S) (hx : St.val ⟨mkT t, h, n, u⟩ x = X)
    (hh : (appS ⟨mkT t, h, n, u⟩ i.k sz S X).heap = h') (hm : (St.olds ⟨mkT t, h, n, u⟩ S).length + (St.news ⟨mkT t, h, n, u⟩ X).length = m)
    (os : St.ok ⟨mkT t, h, n, u⟩ s) (ox : St.ok ⟨mkT t, h, n, u⟩ x) (hp : appOk ⟨mkT t, h, n, u⟩ i.k sz bytes S X) (hk : evIs P is ⟨mkT ((d, .hdr R 0 m) :: t), h', n, uupd u R⟩ K) : evIs P (i :: is) ⟨mkT t, h, n, u⟩ K := by
  refine .inl ?_
  show ev1 P i _ _
  unfold ev1
  rw [hg]
  show evOp P i _ _
  unfold evOp
  rw [hop]
  subst hs hx hh hm hR
  refine ⟨os, ox, .inl ⟨hp, ?_⟩⟩
  rw [hd]
  exact hk
/-- append where there is room that is known. -/
theorem evAi {sz bytes : Nat} {s x : AOpr} {S X V : AV} {h' : Nat → Option Blk} (hop : i.op = .app sz bytes s x) (hg : i.g = none) (hd : i.dst = some d) (hs : St.val ⟨mkT t, h, n, u⟩ s = S) (hx : St.val ⟨mkT t, h, n, u⟩ x = X)
    (hh : (intoS ⟨mkT t, h, n, u⟩ S X).heap = h') (hm : intoV ⟨mkT t, h, n, u⟩ S X = V) (os : St.ok ⟨mkT t, h, n, u⟩ s) (ox : St.ok ⟨mkT t, h, n, u⟩ x) (hp : intoOk ⟨mkT t, h, n, u⟩ sz S X)
    (hk : evIs P is ⟨mkT ((d, V) :: t), h', n, u⟩ K) : evIs P (i :: is) ⟨mkT t, h, n, u⟩ K := by
  refine .inl ?_
  show ev1 P i _ _
  unfold ev1
  rw [hg]
  show evOp P i _ _
  unfold evOp
  rw [hop]
  subst hs hx hh hm
  refine ⟨os, ox, .inr ⟨hp, ?_⟩⟩
  rw [hd]
  have e : intoS ⟨mkT t, h, n, u⟩ (St.val ⟨mkT t, h, n, u⟩ s) (St.val ⟨mkT t, h, n, u⟩ x) = ⟨mkT t, (intoS ⟨mkT t, h, n, u⟩ (St.val ⟨mkT t, h, n, u⟩ s) (St.val ⟨mkT t, h, n, u⟩ x)).heap, n, u⟩ := by
    unfold intoS
    split <;> rfl
  rw [e]
  exact hk
theorem evX {sz : Nat} {ag : Bool} {z : List CV} {x : AOpr} {X : AV} {h' : Nat → Option Blk} (hop : i.op = .clr sz ag z x) (hg : i.g = none) (hd : i.dst = none) (hx : St.val ⟨mkT t, h, n, u⟩ x = X)
    (hh : (clrS ⟨mkT t, h, n, u⟩ ag z X).heap = h') (ox : St.ok ⟨mkT t, h, n, u⟩ x) (hp : clrOk ⟨mkT t, h, n, u⟩ sz ag z X) (hk : evIs P is ⟨mkT t, h', n, u⟩ K) : evIs P (i :: is) ⟨mkT t, h, n, u⟩ K := by
  refine .inl ?_
  show ev1 P i _ _
  unfold ev1
  rw [hg]
  show evOp P i _ _
  unfold evOp
  rw [hop]
  subst hx hh
  refine ⟨ox, hp, ?_⟩
  rw [hd]
  have e : clrS ⟨mkT t, h, n, u⟩ ag z (St.val ⟨mkT t, h, n, u⟩ x) = ⟨mkT t, (clrS ⟨mkT t, h, n, u⟩ ag z (St.val ⟨mkT t, h, n, u⟩ x)).heap, n, u⟩ := by
    unfold clrS
    split <;> rfl
  rw [e]
  exact hk
/-- A slice with a third bound; nothing is told of it. -/
theorem evY {x l b m : AOpr} (hop : i.op = .slm x l b m) (hg : i.g = none) (hd : i.dst = some d) (hp : slmOk ⟨mkT t, h, n, u⟩ x l b m) (hk : evIs P is ⟨mkT ((d, .undef) :: t), h, n, u⟩ K) : evIs P (i :: is) ⟨mkT t, h, n, u⟩ K := by
  refine .inl ?_
  show ev1 P i _ _
  unfold ev1
  rw [hg]
  show evOp P i _ _
  unfold evOp
  rw [hop]
  refine ⟨hp, ?_⟩
  rw [hd]
  exact hk
theorem evS {m : Nat} {ag : Bool} {a x : AOpr} {A X : AV} {h' : Nat → Option Blk} (hop : i.op = .store m ag a x) (hg : i.g = none) (hd : i.dst = none) (ha : St.val ⟨mkT t, h, n, u⟩ a = A) (hx : St.val ⟨mkT t, h, n, u⟩ x = X)
    (hh : (storeS ⟨mkT t, h, n, u⟩ A X).heap = h') (oa : St.ok ⟨mkT t, h, n, u⟩ a) (ox : St.ok ⟨mkT t, h, n, u⟩ x) (hp : storeOk ⟨mkT t, h, n, u⟩ m ag A X) (hk : evIs P is ⟨mkT t, h', n, u⟩ K) : evIs P (i :: is) ⟨mkT t, h, n, u⟩ K := by
  refine .inl ?_
  show ev1 P i _ _
  unfold ev1
  rw [hg]
  show evOp P i _ _
  unfold evOp
  rw [hop]
  subst ha hx hh
  refine ⟨oa, ox, hp, ?_⟩
  rw [hd]
  have e : storeS ⟨mkT t, h, n, u⟩ (St.val ⟨mkT t, h, n, u⟩ a) (St.val ⟨mkT t, h, n, u⟩ x) = ⟨mkT t, (storeS ⟨mkT t, h, n, u⟩ (St.val ⟨mkT t, h, n, u⟩ a) (St.val ⟨mkT t, h, n, u⟩ x)).heap, n, u⟩ := by
    unfold storeS
    split
    · simp only
      split <;> rfl
    · rfl
  rw [e]
  exact hk
end

/-! ### regions that draw -/
theorem evD1 {P : Program} {is : List AI} {ws : List (Nat × List Nat)} {i : Nat} {ii : AI} {s : Sch} {l : List Nat} {st : St} {K : St → Prop} (hi : is[i]? = some ii) (hg : ii.g = none) (hl : wsOf ws i = l)
    (h : evIs P [ii] st (fun st' => rechecks is st' l ∧ evT P is ws s st' K)) : evT P is ws (.take i s) st K := by
  subst hl
  simp only [evT, ev1t, hi]
  refine h.elim (fun h => h) (fun h => ?_)
  unfold evSkip at h
  rw [hg] at h
  exact h.elim
theorem evD2 {P : Program} {is : List AI} {ws : List (Nat × List Nat)} {i : Nat} {ii : AI} {s : Sch} {l : List Nat} {st : St} {K : St → Prop} (hi : is[i]? = some ii) (hg : ii.g = none) (hl : wsOf ws i = l)
    (h : evIs P [ii] st (fun st' => rechecks is st' l ∧ evT P is ws s st' K)) : evT P is ws (.one i s) st K := by
  subst hl
  simp only [evT, ev1t, hi]
  refine h.elim (fun h => h) (fun h => ?_)
  unfold evSkip at h
  rw [hg] at h
  exact h.elim
theorem evN {P : Program} {is : List AI} {ws : List (Nat × List Nat)} {s : Sch} {l : List Nat} {st : St} {K : St → Prop} (hr : rechecks is st l) (h : evT P is ws s st K) : evIs P [] st (fun st' => rechecks is st' l ∧ evT P is ws s st' K) := ⟨hr, h⟩
theorem evDone {P : Program} {is : List AI} {ws : List (Nat × List Nat)} {st : St} {K : St → Prop} (h : K st) : evT P is ws .done st K := h

theorem evZ {P : Program} {i : AI} {is : List AI} {t : List (Nat × AV)} {h : Nat → Option Blk} {n : Nat} {u : Nat → Bool} {K : St → Prop} {d : Nat} {ng : Bool} {x : AOpr} {X : AV} (hop : i.op = .eqz ng x) (hg : i.g = none) (hd : i.dst = some d) (hx : St.val ⟨mkT t, h, n, u⟩ x = X) (ho : St.ok ⟨mkT t, h, n, u⟩ x) (hs : isSl X = true)
    (hk : ∀ b, (0 < lenOf X → b = false) → evIs P is ⟨mkT ((d, .bool (if ng then !b else b)) :: t), h, n, u⟩ K) : evIs P (i :: is) ⟨mkT t, h, n, u⟩ K := by
  refine .inl ?_
  show ev1 P i _ _
  unfold ev1
  rw [hg]
  show evOp P i _ _
  unfold evOp
  rw [hop]
  subst hx
  refine ⟨ho, hs, fun b hb => ?_⟩
  rw [hd]
  exact hk b hb
theorem AW.condT {P : Program} {n : Nat} {st : St} {cx : AOpr} {x y : ACode} {Q : AE → St → Prop} (ho : st.ok cx) (hv : st.val cx = .bool true) (h : AW P n x st Q) : AW P n (.cond cx x y) st Q :=
  AW.cond ho (by rw [hv]; rfl) (fun _ => h) (fun hb => by rw [hv] at hb; cases hb)
theorem AW.condF {P : Program} {n : Nat} {st : St} {cx : AOpr} {x y : ACode} {Q : AE → St → Prop} (ho : st.ok cx) (hv : st.val cx = .bool false) (h : AW P n y st Q) : AW P n (.cond cx x y) st Q :=
  AW.cond ho (by rw [hv]; rfl) (fun hb => by rw [hv] at hb; cases hb) (fun _ => h)
theorem retI {rs : List ARes} {Q : AV → Prop} {st : St} {r : AV} (hq : Q r) (h : resOk st rs r) : retQ rs Q .ret st := ⟨r, hq, h⟩
theorem retN {rs : List ARes} {Q : AV → Prop} {st : St} {r : AV} (hq : Q r) (h : resOk st rs r) : retQ rs Q .normal st := ⟨r, hq, h⟩

/-! ### what simp reckons with -/
@[simp] theorem mkT_cons (d : Nat) (v : AV) (l : List (Nat × AV)) (k : Nat) : mkT ((d, v) :: l) k = if k = d then v else mkT l k := rfl
@[simp] theorem mkT_nil (k : Nat) : mkT [] k = .undef := rfl
@[simp] theorem hupd_eq (h : Nat → Option Blk) (r : Nat) (b : Option Blk) (q : Nat) : hupd h r b q = if q = r then b else h q := rfl
@[simp] theorem mkH_cons (r : Nat) (b : Blk) (l : List (Nat × Blk)) (q : Nat) : mkH ((r, b) :: l) q = if q = r then some b else mkH l q := rfl
@[simp] theorem mkH_nil (q : Nat) : mkH [] q = none := rfl
@[simp] theorem uupd_eq (u : Nat → Bool) (r q : Nat) : uupd u r q = if q = r then true else u q := rfl
@[simp] theorem val_t (t : Nat → AV) (h : Nat → Option Blk) (n : Nat) (u : Nat → Bool) (k : Nat) : St.val ⟨t, h, n, u⟩ (.t k) = (t k).strip := rfl
@[simp] theorem val_c (st : St) (c : CV) : st.val (.c c) = c.av := rfl
@[simp] theorem ok_t (t : Nat → AV) (h : Nat → Option Blk) (n : Nat) (u : Nat → Bool) (k : Nat) : St.ok ⟨t, h, n, u⟩ (.t k) = (t k).ok := rfl
@[simp] theorem ok_c (st : St) (c : CV) : st.ok (.c c) = True := rfl
@[simp] theorem blk_def (t : Nat → AV) (h : Nat → Option Blk) (n : Nat) (u : Nat → Bool) (r : Nat) : St.blk ⟨t, h, n, u⟩ r = (h r).getD ⟨0, false, []⟩ := rfl
@[simp high] theorem iteV_bb (c a b : Bool) : iteV c (.bool a) (.bool b) = .bool (if c then a else b) := rfl
@[simp] theorem iteV_ii (c : Bool) (k k' : IntKind) (a b : Int) : iteV c (.int k a) (.int k' b) = .int k (if c then a else b) := rfl
@[simp] theorem iteV_ss (c : Bool) (a b : ByteArray) : iteV c (.str a) (.str b) = .str (if c then a else b) := rfl
@[simp] theorem iteV_gg (c : Bool) (a b : List AV) : iteV c (.agg a) (.agg b) = if c then .agg a else .agg b := rfl
def pickT (X : AV) (b : Bool) : AV := iteV true X (.bool b)
def pickF (X : AV) (b : Bool) : AV := iteV false (.bool b) X
@[simp] theorem pickT_b (a b : Bool) : pickT (.bool a) b = .bool a := rfl
@[simp] theorem pickF_b (a b : Bool) : pickF (.bool a) b = .bool a := rfl
@[simp] theorem iteV_c (c : Bool) (X : AV) (b : Bool) : iteV c X (.bool b) = if c = true then pickT X b else .bool b := by cases c <;> cases X <;> simp [iteV, pickT]
@[simp] theorem iteV_d (c : Bool) (X : AV) (b : Bool) : iteV c (.bool b) X = if c = true then .bool b else pickF X b := by cases c <;> cases X <;> simp [iteV, pickF]
@[simp] theorem iteOk_ii (k k' : IntKind) (a b : Int) : iteOk (.int k a) (.int k' b) = (k = k') := rfl
@[simp] theorem iteOk_b1 (X : AV) (b : Bool) : iteOk X (.bool b) = True := by cases X <;> simp [iteOk]
@[simp] theorem iteOk_b2 (X : AV) (b : Bool) : iteOk (.bool b) X = True := by cases X <;> simp [iteOk]
@[simp] theorem iteOk_s1 (X : AV) (b : ByteArray) : iteOk X (.str b) = True := by cases X <;> simp [iteOk]
@[simp] theorem iteOk_g1 (X : AV) (b : List AV) : iteOk X (.agg b) = True := by cases X <;> simp [iteOk]
attribute [simp] argT CV.av CV.av.avs AV.strip AV.ok AV.one AV.shr flat vop pop rop binV binII binIIok binSS binSSok binOk cmpV eqCell eqCells isNil nilable ckOf boolOf intOf' isInt isBool fillA asVar St.there St.thereOk SK.cuts lo' hi' boundOk lenOf gcond gok AOp.quiet isSl usedV usedE
@[simp] theorem elemAt_zero (x : AV) (xs : List AV) : elemAt (x :: xs) 0 = x := rfl
@[simp] theorem elemAt_succ (x : AV) (xs : List AV) (n : Nat) : elemAt (x :: xs) (n + 1) = elemAt xs n := rfl
@[simp] theorem cells_agg (cs : List AV) : cellsOf (.agg cs) = cs := rfl
@[simp] theorem cells_int (k : IntKind) (n : Int) : cellsOf (.int k n) = [.int k n] := rfl
@[simp] theorem cells_bool (b : Bool) : cellsOf (.bool b) = [.bool b] := rfl
@[simp] theorem cells_str (s : ByteArray) : cellsOf (.str s) = [.str s] := rfl
@[simp] theorem cells_nilp  : cellsOf (.nilp) = [.nilp] := rfl
@[simp] theorem cells_nilf  : cellsOf (.nilf) = [.nilf] := rfl
@[simp] theorem cells_nili  : cellsOf (.nili) = [.nili] := rfl
@[simp] theorem cells_ptr (r i o : Nat) : cellsOf (.ptr r i o) = [.ptr r i o] := rfl
@[simp] theorem cells_fptr (v : AV) (o : Nat) : cellsOf (.fptr v o) = [.fptr v o] := rfl
@[simp] theorem cells_sl (k : SK) (xs : List AV) : cellsOf (.sl k xs) = [.sl k xs] := rfl
@[simp] theorem cells_hdr (r o n : Nat) : cellsOf (.hdr r o n) = [.hdr r o n] := rfl
@[simp] theorem cells_fn (f : Nat) (cs : List AV) : cellsOf (.fn f cs) = [.fn f cs] := rfl
@[simp] theorem cells_mfn (f : Nat) (cs : List AV) : cellsOf (.mfn f cs) = [.mfn f cs] := rfl
@[simp] theorem cells_ifc (t : Nat) (v : AV) : cellsOf (.ifc t v) = [.ifc t v] := rfl
@[simp] theorem fzA_int (h : Nat → Option Blk) (k : IntKind) (n : Int) : fzA h (AV.int k n) = AV.int k n := by simp [fzA, mapA, mapAs_eq]
@[simp] theorem clC_int (k : IntKind) (n : Int) : clC (AV.int k n) = AV.int k n := by simp [clC, mapA, mapAs_eq]
@[simp] theorem fzA_bool (h : Nat → Option Blk) (b : Bool) : fzA h (AV.bool b) = AV.bool b := by simp [fzA, mapA, mapAs_eq]
@[simp] theorem clC_bool (b : Bool) : clC (AV.bool b) = AV.bool b := by simp [clC, mapA, mapAs_eq]
@[simp] theorem fzA_str (h : Nat → Option Blk) (s : ByteArray) : fzA h (AV.str s) = AV.str s := by simp [fzA, mapA, mapAs_eq]
@[simp] theorem clC_str (s : ByteArray) : clC (AV.str s) = AV.str s := by simp [clC, mapA, mapAs_eq]
@[simp] theorem fzA_nilp (h : Nat → Option Blk)  : fzA h (AV.nilp) = AV.nilp := by simp [fzA, mapA, mapAs_eq]
@[simp] theorem clC_nilp  : clC (AV.nilp) = AV.nilp := by simp [clC, mapA, mapAs_eq]
@[simp] theorem fzA_nilf (h : Nat → Option Blk)  : fzA h (AV.nilf) = AV.nilf := by simp [fzA, mapA, mapAs_eq]
@[simp] theorem clC_nilf  : clC (AV.nilf) = AV.nilf := by simp [clC, mapA, mapAs_eq]
@[simp] theorem fzA_nili (h : Nat → Option Blk)  : fzA h (AV.nili) = AV.nili := by simp [fzA, mapA, mapAs_eq]
@[simp] theorem clC_nili  : clC (AV.nili) = AV.nili := by simp [clC, mapA, mapAs_eq]
@[simp] theorem fzA_fro (h : Nat → Option Blk) (xs : List AV) : fzA h (AV.sl .fro xs) = AV.sl .fro xs := by simp [fzA, mapA, mapAs_eq]
@[simp] theorem clC_fro (xs : List AV) : clC (AV.sl .fro xs) = AV.sl .fro xs := by simp [clC, mapA, mapAs_eq]
@[simp] theorem fzA_ext (h : Nat → Option Blk) (xs : List AV) : fzA h (AV.sl .ext xs) = AV.sl .fro (xs.map (fzA h)) := by simp [fzA, mapA, mapAs_eq]
@[simp] theorem clC_ext (xs : List AV) : clC (AV.sl .ext xs) = AV.sl .fro (xs.map (clC)) := by simp [clC, mapA, mapAs_eq]
@[simp] theorem fzA_own (h : Nat → Option Blk) (sz : Nat) (xs : List AV) : fzA h (AV.sl (.own sz) xs) = AV.sl .fro (xs.map (fzA h)) := by simp [fzA, mapA, mapAs_eq]
@[simp] theorem clC_own (sz : Nat) (xs : List AV) : clC (AV.sl (.own sz) xs) = AV.sl .fro (xs.map (clC)) := by simp [clC, mapA, mapAs_eq]
@[simp] theorem fzA_agg (h : Nat → Option Blk) (cs : List AV) : fzA h (AV.agg cs) = AV.agg (cs.map (fzA h)) := by simp [fzA, mapA, mapAs_eq]
@[simp] theorem clC_agg (cs : List AV) : clC (AV.agg cs) = AV.agg (cs.map (clC)) := by simp [clC, mapA, mapAs_eq]
@[simp] theorem fzA_tup (h : Nat → Option Blk) (cs : List AV) : fzA h (AV.tup cs) = AV.tup (cs.map (fzA h)) := by simp [fzA, mapA, mapAs_eq]
@[simp] theorem clC_tup (cs : List AV) : clC (AV.tup cs) = AV.tup (cs.map (clC)) := by simp [clC, mapA, mapAs_eq]
@[simp] theorem fzA_fn (h : Nat → Option Blk) (f : Nat) (cs : List AV) : fzA h (AV.fn f cs) = AV.fn f (cs.map (fzA h)) := by simp [fzA, mapA, mapAs_eq]
@[simp] theorem clC_fn (f : Nat) (cs : List AV) : clC (AV.fn f cs) = AV.fn f (cs.map (clC)) := by simp [clC, mapA, mapAs_eq]
@[simp] theorem fzA_mfn (h : Nat → Option Blk) (f : Nat) (cs : List AV) : fzA h (AV.mfn f cs) = AV.mfn f (cs.map (fzA h)) := by simp [fzA, mapA, mapAs_eq]
@[simp] theorem clC_mfn (f : Nat) (cs : List AV) : clC (AV.mfn f cs) = AV.mfn f (cs.map (clC)) := by simp [clC, mapA, mapAs_eq]
@[simp] theorem fzA_ifc (h : Nat → Option Blk) (t : Nat) (v : AV) : fzA h (AV.ifc t v) = AV.ifc t (fzA h v) := by simp [fzA, mapA, mapAs_eq]
@[simp] theorem clC_ifc (t : Nat) (v : AV) : clC (AV.ifc t v) = AV.ifc t (clC v) := by simp [clC, mapA, mapAs_eq]
@[simp] theorem fzA_fptr (h : Nat → Option Blk) (v : AV) (o : Nat) : fzA h (AV.fptr v o) = AV.fptr (fzA h v) o := by simp [fzA, mapA, mapAs_eq]
@[simp] theorem clC_fptr (v : AV) (o : Nat) : clC (AV.fptr v o) = AV.fptr (clC v) o := by simp [clC, mapA, mapAs_eq]
@[simp] theorem fzA_hdr (h : Nat → Option Blk) (r o n : Nat) : fzA h (.hdr r o n) = fzB h r o n := rfl
@[simp] theorem fzA_ptr (h : Nat → Option Blk) (r i o : Nat) : fzA h (.ptr r i o) = fzQ h r i o := rfl
attribute [simp] okA okAs St.olds St.news St.newsUsed St.oldsUsed St.newsOk St.oldsOk hdel closeV closeE closeOk
end Go.Amb

set_option linter.unusedSimpArgs false
set_option linter.unusedVariables false
namespace Go.Amb
open Go Go.RowKit
section
variable {P : Program} {n : Nat} {st st' : St} {x : ACode} {Q : AE → St → Prop}
/-- What is reached is told otherwise. -/
theorem AW.out (h : AW P n x st (fun e s => ∃ s', Fit s s' ∧ Q e s')) : AW P n x st Q := fun c hc E a w hP hn hR =>
  wp_mono (h c hc E a w hP hn hR) fun e a' w' ⟨e', h1, s, ⟨s', hf, hq⟩, h3⟩ => ⟨e', h1, s', hq, hf E a' w' h3⟩
/-- A stop between two parts. -/
theorem AW.cut {y : ACode} (h : AW P n x st (fun e s => e = .normal ∧ Fit s st')) (k : AW P n y st' Q) : AW P n (.seq x y) st Q :=
  AW.seq (AW.mono h fun e s ⟨he, hf⟩ => by subst he; exact AW.fit hf k)
end
/-- Calls of which only a part is told. -/
theorem evCb {P : Program} {i : AI} {is : List AI} {t : List (Nat × AV)} {h : Nat → Option Blk} {n : Nat} {u : Nat → Bool} {K : St → Prop} {d : Nat} {f : Nat} {args : List AOpr} {vs vs' : List AV} {B : Bool → Prop} (hop : i.op = .call f args) (hg : i.g = none) (hd : i.dst = some d) (had : i.ad = false) (hvs : args.map (St.val ⟨mkT t, h, n, u⟩) = vs) (hvs' : vs.map (fzA h) = vs')
    (hA : ACall P f vs' (fun r => ∃ b, r = .bool b ∧ B b)) (ho : ∀ x ∈ args, St.ok ⟨mkT t, h, n, u⟩ x) (hcl : okAs noF noF vs ∨ okAs (okB h) (okQ h) vs) (hk : ∀ b, B b → evIs P is ⟨mkT ((d, .bool b) :: t), h, n, u⟩ K) :
    evIs P (i :: is) ⟨mkT t, h, n, u⟩ K := by
  refine .inl ?_
  show ev1 P i _ _
  unfold ev1
  rw [hg]
  show evOp P i _ _
  unfold evOp
  rw [hop]
  subst hvs hvs'
  refine ⟨ho, .inl ⟨_, hA, ?_⟩⟩
  have hret : ∀ r, (∃ b, r = .bool b ∧ B b) → retK i ⟨mkT t, h, n, u⟩ (fun st' => evIs P is st' K) r := by
    rintro _ ⟨b, rfl, hb⟩
    unfold retK
    rw [had, if_neg (by simp), hd]
    exact hk b hb
  rcases hcl with hcl | hcl
  · exact .inl ⟨hcl, hret⟩
  · exact .inr ⟨hcl, fun r hr => ⟨by obtain ⟨b, rfl, _⟩ := hr; rfl, hret r hr⟩⟩
theorem evCi {P : Program} {i : AI} {is : List AI} {t : List (Nat × AV)} {h : Nat → Option Blk} {n : Nat} {u : Nat → Bool} {K : St → Prop} {d : Nat} {f : Nat} {args : List AOpr} {vs vs' : List AV} {B : Int → Prop} (hop : i.op = .call f args) (hg : i.g = none) (hd : i.dst = some d) (had : i.ad = false) (hvs : args.map (St.val ⟨mkT t, h, n, u⟩) = vs) (hvs' : vs.map (fzA h) = vs')
    (hA : ACall P f vs' (fun r => ∃ b, r = AV.int .i64 b ∧ B b)) (ho : ∀ x ∈ args, St.ok ⟨mkT t, h, n, u⟩ x) (hcl : okAs noF noF vs ∨ okAs (okB h) (okQ h) vs) (hk : ∀ b, B b → evIs P is ⟨mkT ((d, AV.int .i64 b) :: t), h, n, u⟩ K) :
    evIs P (i :: is) ⟨mkT t, h, n, u⟩ K := by
  refine .inl ?_
  show ev1 P i _ _
  unfold ev1
  rw [hg]
  show evOp P i _ _
  unfold evOp
  rw [hop]
  subst hvs hvs'
  refine ⟨ho, .inl ⟨_, hA, ?_⟩⟩
  have hret : ∀ r, (∃ b, r = AV.int .i64 b ∧ B b) → retK i ⟨mkT t, h, n, u⟩ (fun st' => evIs P is st' K) r := by
    rintro _ ⟨b, rfl, hb⟩
    unfold retK
    rw [had, if_neg (by simp), hd]
    exact hk b hb
  rcases hcl with hcl | hcl
  · exact .inl ⟨hcl, hret⟩
  · exact .inr ⟨hcl, fun r hr => ⟨by obtain ⟨b, rfl, _⟩ := hr; rfl, hret r hr⟩⟩
theorem evTwo {P : Program} {is : List AI} {ws : List (Nat × List Nat)} {i j : Nat} {s t : Sch} {st : St} {K : St → Prop} (h1 : evT P is ws (.one i s) st K) (h2 : evT P is ws (.one j t) st K) : evT P is ws (.two i s j t) st K := ⟨h1, h2⟩
theorem evThree {P : Program} {is : List AI} {ws : List (Nat × List Nat)} {i j k : Nat} {s t u : Sch} {st : St} {K : St → Prop} (h1 : evT P is ws (.one i s) st K) (h2 : evT P is ws (.one j t) st K) (h3 : evT P is ws (.one k u) st K) : evT P is ws (.three i s j t k u) st K := ⟨h1, h2, h3⟩
/-- A drawn operation under a guard that holds. -/
theorem evD1g {P : Program} {is : List AI} {ws : List (Nat × List Nat)} {i : Nat} {ii : AI} {s : Sch} {l : List Nat} {st : St} {K : St → Prop} {g : Nat} {b : Bool} (hi : is[i]? = some ii) (hg : ii.g = some (g, b)) (hl : wsOf ws i = l) (hc : gcond st g b = true)
    (h : evIs P [ii] st (fun st' => rechecks is st' l ∧ evT P is ws s st' K)) : evT P is ws (.take i s) st K := by
  subst hl
  simp only [evT, ev1t, hi]
  refine h.elim (fun h => h) (fun h => ?_)
  unfold evSkip at h
  rw [hg] at h
  exact absurd (hc.symm.trans h.2.1) (by simp)
/-- A drawn operation under a guard that does not hold. -/
theorem evD1f {P : Program} {is : List AI} {ws : List (Nat × List Nat)} {i : Nat} {ii : AI} {s : Sch} {l : List Nat} {t : List (Nat × AV)} {h : Nat → Option Blk} {n : Nat} {u : Nat → Bool} {K : St → Prop} {d g : Nat} {b : Bool} (hi : is[i]? = some ii) (hg : ii.g = some (g, b)) (hl : wsOf ws i = l) (hq : ii.op.quiet = true) (hd : ii.dst = some d)
    (hc : gcond ⟨mkT t, h, n, u⟩ g b = false) (hk : gok ⟨mkT t, h, n, u⟩ g) (hr : ∀ X, evIs P [] ⟨mkT ((d, .grd false X) :: t), h, n, u⟩ (fun st' => rechecks is st' l ∧ evT P is ws s st' K)) : evT P is ws (.take i s) ⟨mkT t, h, n, u⟩ K := by
  subst hl
  simp only [evT, ev1t, hi]
  rw [ev1_quiet hq]
  unfold ok1 val1
  rw [hg, hd]
  refine ⟨⟨hk, fun e => absurd (hc.symm.trans e) (by simp)⟩, ?_⟩
  simp only [hc]
  exact hr _
theorem evD2f {P : Program} {is : List AI} {ws : List (Nat × List Nat)} {i : Nat} {ii : AI} {s : Sch} {l : List Nat} {t : List (Nat × AV)} {h : Nat → Option Blk} {n : Nat} {u : Nat → Bool} {K : St → Prop} {d g : Nat} {b : Bool} (hi : is[i]? = some ii) (hg : ii.g = some (g, b)) (hl : wsOf ws i = l) (hq : ii.op.quiet = true) (hd : ii.dst = some d)
    (hc : gcond ⟨mkT t, h, n, u⟩ g b = false) (hk : gok ⟨mkT t, h, n, u⟩ g) (hr : ∀ X, evIs P [] ⟨mkT ((d, .grd false X) :: t), h, n, u⟩ (fun st' => rechecks is st' l ∧ evT P is ws s st' K)) : evT P is ws (.one i s) ⟨mkT t, h, n, u⟩ K := by
  exact evD1f hi hg hl hq hd hc hk hr
theorem evD2g {P : Program} {is : List AI} {ws : List (Nat × List Nat)} {i : Nat} {ii : AI} {s : Sch} {l : List Nat} {st : St} {K : St → Prop} {g : Nat} {b : Bool} (hi : is[i]? = some ii) (hg : ii.g = some (g, b)) (hl : wsOf ws i = l) (hc : gcond st g b = true)
    (h : evIs P [ii] st (fun st' => rechecks is st' l ∧ evT P is ws s st' K)) : evT P is ws (.one i s) st K := by
  subst hl
  simp only [evT, ev1t, hi]
  refine h.elim (fun h => h) (fun h => ?_)
  unfold evSkip at h
  rw [hg] at h
  exact absurd (hc.symm.trans h.2.1) (by simp)
/-- The first elements of a list, each turned. -/
def pre {α : Type} (f : α → AV) (xs : List α) (i : Nat) : List AV := (xs.take i).map f
section
variable {α : Type} {f : α → AV} {xs : List α} {i : Nat}
theorem pre_len (h : i ≤ xs.length) : (pre f xs i).length = i := by simp [pre, h]
theorem pre_add {v : α} (h : xs[i]? = some v) : pre f xs i ++ [f v] = pre f xs (i + 1) := by
  simp [pre, List.take_add_one, h]
theorem pre_zero : pre f xs 0 = [] := rfl
theorem pre_full : pre f xs xs.length = xs.map f := by simp [pre]
theorem elem_map {v : α} (h : xs[i]? = some v) : elemAt (xs.map f) i = f v := by simp [elemAt, h]
end
end Go.Amb

set_option linter.unusedSimpArgs false
set_option linter.unusedVariables false
namespace Go.Amb
open Go Go.RowKit

def oneOf : List AV → AV
  | [v] => v
  | vs => .tup vs
/-- How a function ends that gives its roots back. -/
def retB (rs : List ARes) (H0 : List (Nat × Blk)) (N : Nat) (Q : List (Nat × Blk) → Nat → AV → Prop) : AE → St → Prop
  | .exit _, _ => False
  | _, s => resP s rs ∧ ∃ H1 n' rv, Q H1 n' (oneOf rv) ∧ N ≤ n' ∧ (∀ p ∈ H1, (mkH H0 p.1).isSome = true ∨ N ≤ p.1) ∧ rv.length = rs.length ∧ (∀ v ∈ rv, v ≠ .undef) ∧
      Fit ⟨mkT (argT 0 (resV s rs)), s.heap, s.nx, s.us⟩ (mkS (argT 0 rv) H1 n')
/-- The abstract code is the function's. -/
def Coded (P : Program) (f n : Nat) (ac : ACode) (rs : List ARes) : Prop :=
  ∃ fn c, P.funcs[f]? = some fn ∧ fn.body = some c ∧ (fn.name != "runtime.NumGoroutine") = true ∧ fn.ntmps = n ∧ chkCode P n c ac = true ∧ chkRs P fn.results.toList rs = true

theorem vals_each {w : World} {O : Nat → Prop} {B : Nat} {pl : Pls} : ∀ (rv : List AV) (us : List Value), rv.length = us.length → (∀ (i : Nat) v, rv[i]? = some v → ∃ u, us[i]? = some u ∧ Vals w O B pl [v] [u] []) → Vals w O B pl rv us []
  | [], [], _, _ => .nil
  | v :: rv, u :: us, hl, h => by
    obtain ⟨u', h1, h2⟩ := h 0 v rfl
    simp at h1
    subst h1
    exact h2.cons (vals_each rv us (by simpa using hl) fun i v hv => by simpa using h (i + 1) v (by simpa using hv))
  | [], _ :: _, hl, _ => by simp at hl
  | _ :: _, [], hl, _ => by simp at hl
theorem mkT_at : ∀ (args : List AV) (i d : Nat) (v : AV), args[d]? = some v → mkT (argT i args) (i + d) = v
  | [], _, _, _, h => by simp at h
  | x :: xs, i, 0, v, h => by simp [argT, mkT, tupd] at h ⊢; exact h
  | x :: xs, i, d + 1, v, h => by
    have := mkT_at xs (i + 1) d v (by simpa using h)
    rw [show i + 1 + d = i + (d + 1) by omega] at this
    simp only [argT, mkT, tupd]
    rw [if_neg (by omega)]
    exact this

theorem acall_coded {P : Program} {f n : Nat} {ac : ACode} {rs : List ARes} (hcd : Coded P f n ac rs) {args : List AV} {Q : AV → Prop} (hlen : args.length ≤ n) (h : AW P n ac (mkS (argT 0 args) [] 0) (retQ rs Q)) : ACall P f args Q := by
  obtain ⟨fn, c, h1, h2, h3, rfl, h4, h5⟩ := hcd
  exact acall_of h1 h2 h3 h4 h5 hlen h

theorem bcall_coded {P : Program} {f n : Nat} {ac : ACode} {rs : List ARes} (hcd : Coded P f n ac rs) {args : List AV} {H0 : List (Nat × Blk)} {N : Nat} {Q : List (Nat × Blk) → Nat → AV → Prop} (hlen : args.length ≤ n)
    (h : AW P n ac (mkS (argT 0 args) H0 N) (retB rs H0 N Q)) : BCall P f H0 N args Q := by
  obtain ⟨fn, c, hf, hb, hn, rfl, hc, hr⟩ := hcd
  refine ⟨?_, fun E a pl fp us hP hnb hpl hR hv => ?_⟩
  · unfold bodied
    rw [hf]
    simp only [hb, Option.isSome_some, Bool.true_and]
    exact hn
  · refine calls_of_wp hf hb ?_
    let E2 : Env := ⟨P, fn.ntmps, E.w0, E.X, E.G, E.pl0, E.nb⟩
    have hul : us.length = args.length := hv.length
    have hR2 : RelW E2 (mkS (argT 0 args) H0 N) { tmps := us.toArray ++ Array.replicate (fn.ntmps - us.toArray.size) undef, defers := [] } E.w0 pl fp :=
      { size := by simp [E2]; omega
        defers := rfl, plx := hR.plx, unused := hR.unused, used := hR.used, usnb := hR.usnb, roots := hR.roots, nodup := hR.nodup, own := hR.own, disj := hR.disj, xold := hR.xold, gold := hR.gold
        tmps := fun d hd => by
          obtain ⟨_, h1⟩ := mkT_arg args 0 d hd
          obtain ⟨u, h2, h3⟩ := hv.get0 _ _ h1
          refine ⟨u, ?_, h3⟩
          simp only [Nat.sub_zero] at h2
          have hlt : d < us.length := (List.getElem?_eq_some_iff.1 h2).1
          rw [Array.getElem?_append_left (by simpa using hlt)]
          simpa using h2
        keeps := hR.keeps }
    refine wp_mono (h c hc E2 _ E.w0 rfl rfl ⟨pl, fp, hR2⟩) ?_
    rintro e a' w' ⟨e', he, s, hq, pl', fp', hR'⟩
    have fin : (resP s rs ∧ ∃ H1 n' rv, Q H1 n' (oneOf rv) ∧ N ≤ n' ∧ (∀ p ∈ H1, (mkH H0 p.1).isSome = true ∨ N ≤ p.1) ∧ rv.length = rs.length ∧ (∀ v ∈ rv, v ≠ .undef) ∧ Fit ⟨mkT (argT 0 (resV s rs)), s.heap, s.nx, s.us⟩ (mkS (argT 0 rv) H1 n')) →
        a'.defers = [] ∧ ∃ v, (results fn a'.tmps).run P w' = .ok v w' ∧ Ends E H0 N Q (.returned v) w' := by
      rintro ⟨hp, H1, n', rv, hQ, hNn, hk, hlr, hnu, hfit⟩
      obtain ⟨us', h1, h2⟩ := res_run hR' _ _ hr hp
      have hl2 : us'.length = rs.length := by rw [h2.length]; simp [resV]
      let E3 : Env := ⟨P, us'.length, E.w0, E.X, E.G, E.pl0, E.nb⟩
      have hR3 : RelW E3 ⟨mkT (argT 0 (resV s rs)), s.heap, s.nx, s.us⟩ { tmps := us'.toArray, defers := [] } w' pl' fp' :=
        { size := by simp [E3]
          defers := rfl, plx := hR'.plx, unused := hR'.unused, used := hR'.used, usnb := hR'.usnb, roots := hR'.roots, nodup := hR'.nodup, own := hR'.own, disj := hR'.disj, xold := hR'.xold, gold := hR'.gold
          tmps := fun d hd => by
            obtain ⟨_, h1⟩ := mkT_arg _ 0 d hd
            obtain ⟨u, h3, h4⟩ := h2.get0 _ _ h1
            refine ⟨u, ?_, h4⟩
            simpa using h3
          keeps := hR'.keeps }
      obtain ⟨pl'', fp'', hR4⟩ := hfit E3 _ w' ⟨pl', fp', hR3⟩
      have hvs : Vals w' (Own E (mkS [] H1 n') fp'') E.w0.heap.size pl'' rv us' [] := by
        refine vals_each rv us' (by omega) fun i v hi => ?_
        have ht : (mkS (argT 0 rv) H1 n').tmp i = v := by
          have := mkT_at rv 0 i v hi
          simpa [mkS] using this
        obtain ⟨u, h5, h6⟩ := hR4.tmps i (by rw [ht]; exact hnu v (List.mem_of_getElem? hi))
        rw [ht] at h6
        exact ⟨u, by simpa using h5, h6⟩
      have hR5 : RelW E (mkS [] H1 n') a w' pl'' fp'' :=
        { size := hR.size, defers := hR.defers, plx := hR4.plx, unused := hR4.unused, used := hR4.used, usnb := hR4.usnb, roots := hR4.roots, nodup := hR4.nodup, own := hR4.own, disj := hR4.disj, xold := hR4.xold, gold := hR4.gold
          tmps := fun d hd => absurd rfl hd
          keeps := hR4.keeps }
      have hrun : ∀ v, (if h : us'.toArray.size = 1 then us'.toArray[0] else .tuple us'.toArray) = v → (results fn a'.tmps).run P w' = .ok v w' := by
        intro v hv
        show ((fn.results.mapM (res1F a')) >>= fun vs => pure (if h : vs.size = 1 then vs[0] else .tuple vs)).run P w' = _
        have h1' : (fn.results.toList.mapM (res1F a')).run P w' = .ok us' w' := h1
        rw [Array.mapM_eq_mapM_toList]
        simp [h1']
        simpa using hv
      have hkk : ∀ q, (mkH H1 q).isSome = true → (mkH H0 q).isSome = true ∨ N ≤ q := by
        intro q hq
        cases hm : mkH H1 q with
        | none => rw [hm] at hq; cases hq
        | some b => exact hk _ (mkH_mem hm)
      refine ⟨hR'.defers, _, hrun _ rfl, H1, n', oneOf rv, a, pl'', fp'', hQ, hNn, hkk, hR5, ?_⟩
      by_cases h1l : us'.length = 1
      · obtain ⟨u, rfl⟩ := List.length_eq_one_iff.1 h1l
        obtain ⟨v, rfl⟩ := List.length_eq_one_iff.1 (show rv.length = 1 by omega)
        simpa [oneOf] using hvs
      · rw [dif_neg (by simpa using h1l)]
        have : oneOf rv = .tup rv := by
          unfold oneOf
          split
          · simp at hlr; omega
          · rfl
        rw [this]
        have := Vals.tup hvs .nil
        simpa using this
    cases e <;> simp only [AE.of, reduceCtorEq] at he <;> injection he with he <;> subst he
    · exact fin hq
    · exact hq.elim
    · exact fin hq

/-- A call that is handed roots. -/
theorem evL {P : Program} {i : AI} {is : List AI} {t : List (Nat × AV)} {h : Nat → Option Blk} {n : Nat} {u : Nat → Bool} {K : St → Prop} {d : Nat} {f : Nat} {args : List AOpr} {vs : List AV} {H0 : List (Nat × Blk)} {N : Nat} {Q : List (Nat × Blk) → Nat → AV → Prop}
    (hop : i.op = .call f args) (hg : i.g = none) (hd : i.dst = some d) (hvs : args.map (St.val ⟨mkT t, h, n, u⟩) = vs) (hA : BCall P f H0 N vs Q) (ho : ∀ x ∈ args, St.ok ⟨mkT t, h, n, u⟩ x) (hH : ∀ p ∈ H0, h p.1 = some p.2) (hN : ∀ r, u r = true → r < N)
    (hk : ∀ H1 n' r, Q H1 n' r → evIs P is ⟨mkT ((d, r) :: t), over H0 H1 h, n, fun q => u q || (decide (N ≤ q) && decide (q < n'))⟩ K) : evIs P (i :: is) ⟨mkT t, h, n, u⟩ K := by
  refine .inl ?_
  show ev1 P i _ _
  unfold ev1
  rw [hg]
  show evOp P i _ _
  unfold evOp
  rw [hop]
  subst hvs
  refine ⟨ho, .inr ⟨H0, N, Q, hA, fun q b hq => hH _ (mkH_mem hq), hN, fun H1 n' r hq => ?_⟩⟩
  rw [hd]
  exact hk H1 n' r hq
/-- A call that is handed roots and whose result is not kept. -/
theorem evL0 {P : Program} {i : AI} {is : List AI} {t : List (Nat × AV)} {h : Nat → Option Blk} {n : Nat} {u : Nat → Bool} {K : St → Prop} {f : Nat} {args : List AOpr} {vs : List AV} {H0 : List (Nat × Blk)} {N : Nat} {Q : List (Nat × Blk) → Nat → AV → Prop}
    (hop : i.op = .call f args) (hg : i.g = none) (hd : i.dst = none) (hvs : args.map (St.val ⟨mkT t, h, n, u⟩) = vs) (hA : BCall P f H0 N vs Q) (ho : ∀ x ∈ args, St.ok ⟨mkT t, h, n, u⟩ x) (hH : ∀ p ∈ H0, h p.1 = some p.2) (hN : ∀ r, u r = true → r < N)
    (hk : ∀ H1 n' r, Q H1 n' r → evIs P is ⟨mkT t, over H0 H1 h, n, fun q => u q || (decide (N ≤ q) && decide (q < n'))⟩ K) : evIs P (i :: is) ⟨mkT t, h, n, u⟩ K := by
  refine .inl ?_
  show ev1 P i _ _
  unfold ev1
  rw [hg]
  show evOp P i _ _
  unfold evOp
  rw [hop]
  subst hvs
  refine ⟨ho, .inr ⟨H0, N, Q, hA, fun q b hq => hH _ (mkH_mem hq), hN, fun H1 n' r hq => ?_⟩⟩
  rw [hd]
  exact hk H1 n' r hq
/-- A call of a function value that is handed roots. -/
theorem evLv {P : Program} {i : AI} {is : List AI} {t : List (Nat × AV)} {h : Nat → Option Blk} {n : Nat} {u : Nat → Bool} {K : St → Prop} {d : Nat} {f : Nat} {x : AOpr} {caps : List AV} {args : List AOpr} {vs : List AV} {H0 : List (Nat × Blk)} {N : Nat} {Q : List (Nat × Blk) → Nat → AV → Prop}
    (hop : i.op = .callv x args) (hg : i.g = none) (hd : i.dst = some d) (hx : St.val ⟨mkT t, h, n, u⟩ x = .fn f caps) (hvs : args.map (St.val ⟨mkT t, h, n, u⟩) ++ caps = vs) (hA : BCall P f H0 N vs Q) (hox : St.ok ⟨mkT t, h, n, u⟩ x) (ho : ∀ x ∈ args, St.ok ⟨mkT t, h, n, u⟩ x) (hH : ∀ p ∈ H0, h p.1 = some p.2) (hN : ∀ r, u r = true → r < N)
    (hk : ∀ H1 n' r, Q H1 n' r → evIs P is ⟨mkT ((d, r) :: t), over H0 H1 h, n, fun q => u q || (decide (N ≤ q) && decide (q < n'))⟩ K) : evIs P (i :: is) ⟨mkT t, h, n, u⟩ K := by
  refine .inl ?_
  show ev1 P i _ _
  unfold ev1
  rw [hg]
  show evOp P i _ _
  unfold evOp
  rw [hop]
  subst hvs
  refine ⟨hox, ho, ?_⟩
  rw [hx]
  refine .inr ⟨H0, N, Q, hA, fun q b hq => hH _ (mkH_mem hq), hN, fun H1 n' r hq => ?_⟩
  rw [hd]
  exact hk H1 n' r hq
theorem evLv0 {P : Program} {i : AI} {is : List AI} {t : List (Nat × AV)} {h : Nat → Option Blk} {n : Nat} {u : Nat → Bool} {K : St → Prop} {f : Nat} {x : AOpr} {caps : List AV} {args : List AOpr} {vs : List AV} {H0 : List (Nat × Blk)} {N : Nat} {Q : List (Nat × Blk) → Nat → AV → Prop}
    (hop : i.op = .callv x args) (hg : i.g = none) (hd : i.dst = none) (hx : St.val ⟨mkT t, h, n, u⟩ x = .fn f caps) (hvs : args.map (St.val ⟨mkT t, h, n, u⟩) ++ caps = vs) (hA : BCall P f H0 N vs Q) (hox : St.ok ⟨mkT t, h, n, u⟩ x) (ho : ∀ x ∈ args, St.ok ⟨mkT t, h, n, u⟩ x) (hH : ∀ p ∈ H0, h p.1 = some p.2) (hN : ∀ r, u r = true → r < N)
    (hk : ∀ H1 n' r, Q H1 n' r → evIs P is ⟨mkT t, over H0 H1 h, n, fun q => u q || (decide (N ≤ q) && decide (q < n'))⟩ K) : evIs P (i :: is) ⟨mkT t, h, n, u⟩ K := by
  refine .inl ?_
  show ev1 P i _ _
  unfold ev1
  rw [hg]
  show evOp P i _ _
  unfold evOp
  rw [hop]
  subst hvs
  refine ⟨hox, ho, ?_⟩
  rw [hx]
  refine .inr ⟨H0, N, Q, hA, fun q b hq => hH _ (mkH_mem hq), hN, fun H1 n' r hq => ?_⟩
  rw [hd]
  exact hk H1 n' r hq
/-- A call of a method value that is handed roots; its result is not kept. -/
theorem evLm0 {P : Program} {i : AI} {is : List AI} {t : List (Nat × AV)} {h : Nat → Option Blk} {n : Nat} {u : Nat → Bool} {K : St → Prop} {f : Nat} {x : AOpr} {caps : List AV} {args : List AOpr} {vs : List AV} {H0 : List (Nat × Blk)} {N : Nat} {Q : List (Nat × Blk) → Nat → AV → Prop}
    (hop : i.op = .callv x args) (hg : i.g = none) (hd : i.dst = none) (hx : St.val ⟨mkT t, h, n, u⟩ x = .mfn f caps) (hvs : caps ++ args.map (St.val ⟨mkT t, h, n, u⟩) = vs) (hA : BCall P f H0 N vs Q) (hox : St.ok ⟨mkT t, h, n, u⟩ x) (ho : ∀ x ∈ args, St.ok ⟨mkT t, h, n, u⟩ x) (hH : ∀ p ∈ H0, h p.1 = some p.2) (hN : ∀ r, u r = true → r < N)
    (hk : ∀ H1 n' r, Q H1 n' r → evIs P is ⟨mkT t, over H0 H1 h, n, fun q => u q || (decide (N ≤ q) && decide (q < n'))⟩ K) : evIs P (i :: is) ⟨mkT t, h, n, u⟩ K := by
  refine .inl ?_
  show ev1 P i _ _
  unfold ev1
  rw [hg]
  show evOp P i _ _
  unfold evOp
  rw [hop]
  subst hvs
  refine ⟨hox, ho, ?_⟩
  rw [hx]
  refine .inr ⟨H0, N, Q, hA, fun q b hq => hH _ (mkH_mem hq), hN, fun H1 n' r hq => ?_⟩
  rw [hd]
  exact hk H1 n' r hq
end Go.Amb

set_option linter.unusedVariables false
set_option linter.unusedSimpArgs false
namespace Go.Amb
open Go
theorem wQ {P : Program} {i : AI} {is : List AI} {t : List (Nat × AV)} {h : Nat → Option Blk} {n : Nat} {u : Nat → Bool} {K : St → Prop} {d : Nat} {v : AV}  (hk : evIs P is ⟨mkT ((d, v) :: t), h, n, u⟩ K) (hq : i.op.quiet = true := by exact rfl) (hg : i.g = none := by exact rfl) (hd : i.dst = some d := by exact rfl) (hv : vop ⟨mkT t, h, n, u⟩ i.k i.op = v := by conv => lhs; (try simp [hF, mkS, litA, fillA, maxI])) (hp : pop ⟨mkT t, h, n, u⟩ i.k i.op := by simp [hF, mkS, litA, fillA, maxI] <;> fail) : evIs P (i :: is) ⟨mkT t, h, n, u⟩ K :=
  evQ (hq := hq) (hg := hg) (hd := hd) (hv := hv) (hp := hp) (hk := hk)
theorem wF {P : Program} {i : AI} {is : List AI} {t : List (Nat × AV)} {h : Nat → Option Blk} {n : Nat} {u : Nat → Bool} {K : St → Prop} {d : Nat}  {s : Nat} {b : Bool} (hr : evIs P is ⟨mkT ((d, .grd false .undef) :: t), h, n, u⟩ K) (hg : i.g = some (s, b) := by exact rfl) (hd : i.dst = some d := by exact rfl) (hc : gcond ⟨mkT t, h, n, u⟩ s b = false := by simp [hF, mkS, litA, fillA, maxI] <;> fail) (hk : gok ⟨mkT t, h, n, u⟩ s := by simp [hF, mkS, litA, fillA, maxI] <;> fail) : evIs P (i :: is) ⟨mkT t, h, n, u⟩ K :=
  evF (hg := hg) (hd := hd) (hc := hc) (hk := hk) (hr := hr)
theorem wG {P : Program} {i : AI} {is : List AI} {t : List (Nat × AV)} {h : Nat → Option Blk} {n : Nat} {u : Nat → Bool} {K : St → Prop} {d : Nat} {v : AV}  {s : Nat} {b c : Bool} (hr : evIs P is ⟨mkT ((d, .grd c v) :: t), h, n, u⟩ K) (hq : i.op.quiet = true := by exact rfl) (hg : i.g = some (s, b) := by exact rfl) (hd : i.dst = some d := by exact rfl) (hc : gcond ⟨mkT t, h, n, u⟩ s b = c := by conv => lhs; (try simp [hF, mkS, litA, fillA, maxI])) (hv : vop ⟨mkT t, h, n, u⟩ i.k i.op = v := by conv => lhs; (try simp [hF, mkS, litA, fillA, maxI])) (hk : gok ⟨mkT t, h, n, u⟩ s := by simp [hF, mkS, litA, fillA, maxI] <;> fail) (hp : c = true → pop ⟨mkT t, h, n, u⟩ i.k i.op := by simp [hF, mkS, litA, fillA, maxI] <;> fail) : evIs P (i :: is) ⟨mkT t, h, n, u⟩ K :=
  evG (hq := hq) (hg := hg) (hd := hd) (hc := hc) (hv := hv) (hk := hk) (hp := hp) (hr := hr)
theorem wT {P : Program} {i : AI} {is : List AI} {t : List (Nat × AV)} {h : Nat → Option Blk} {n : Nat} {u : Nat → Bool} {K : St → Prop}  {s : Nat} {b : Bool} (hr : evIs P ({ i with g := none } :: is) ⟨mkT t, h, n, u⟩ K) (hg : i.g = some (s, b) := by exact rfl) (hc : gcond ⟨mkT t, h, n, u⟩ s b = true := by simp [hF, mkS, litA, fillA, maxI] <;> fail) (hq : i.op.quiet = false := by exact rfl) (hk : gok ⟨mkT t, h, n, u⟩ s := by simp [hF, mkS, litA, fillA, maxI] <;> fail) : evIs P (i :: is) ⟨mkT t, h, n, u⟩ K :=
  evT1 (hg := hg) (hc := hc) (hq := hq) (hk := hk) (hr := hr)
theorem wM {P : Program} {i : AI} {is : List AI} {t : List (Nat × AV)} {h : Nat → Option Blk} {n : Nat} {u : Nat → Bool} {K : St → Prop} {d : Nat}  {blk : Blk} {R : Nat} (hk : evIs P is ⟨mkT ((d, .ptr R 0 0) :: t), hupd h R (some blk), n, uupd u R⟩ K) (hq : (match i.op with | .alloc .. | .box .. => true | _ => false) = true := by exact rfl) (hg : i.g = none := by exact rfl) (hd : i.dst = some d := by exact rfl) (hR : n + i.k = R := by conv => lhs; (try simp)) (hb : rop ⟨mkT t, h, n, u⟩ i.op = some blk := by conv => lhs; (try simp [hF, mkS, litA, fillA, maxI])) (hp : pop ⟨mkT t, h, n, u⟩ i.k i.op := by simp [hF, mkS, litA, fillA, maxI] <;> fail) : evIs P (i :: is) ⟨mkT t, h, n, u⟩ K :=
  evM (hq := hq) (hg := hg) (hd := hd) (hR := hR) (hb := hb) (hp := hp) (hk := hk)
theorem wS {P : Program} {i : AI} {is : List AI} {t : List (Nat × AV)} {h : Nat → Option Blk} {n : Nat} {u : Nat → Bool} {K : St → Prop}  {m : Nat} {ag : Bool} {a x : AOpr} {A X : AV} {h' : Nat → Option Blk} (hk : evIs P is ⟨mkT t, h', n, u⟩ K) (hop : i.op = .store m ag a x := by exact rfl) (hg : i.g = none := by exact rfl) (hd : i.dst = none := by exact rfl) (ha : St.val ⟨mkT t, h, n, u⟩ a = A := by conv => lhs; (try simp [hF, mkS, litA, fillA, maxI])) (hx : St.val ⟨mkT t, h, n, u⟩ x = X := by conv => lhs; (try simp [hF, mkS, litA, fillA, maxI])) (hh : (storeS ⟨mkT t, h, n, u⟩ A X).heap = h' := by conv => lhs; (try simp [hF, mkS, litA, fillA, maxI, storeS, putAt, reCells, usedE])) (oa : St.ok ⟨mkT t, h, n, u⟩ a := by simp [hF, mkS, litA, fillA, maxI] <;> fail) (ox : St.ok ⟨mkT t, h, n, u⟩ x := by simp [hF, mkS, litA, fillA, maxI] <;> fail) (hp : storeOk ⟨mkT t, h, n, u⟩ m ag A X := by simp [hF, mkS, litA, fillA, maxI, storeOk] <;> fail) : evIs P (i :: is) ⟨mkT t, h, n, u⟩ K :=
  evS (hop := hop) (hg := hg) (hd := hd) (ha := ha) (hx := hx) (hh := hh) (oa := oa) (ox := ox) (hp := hp) (hk := hk)
theorem wP {P : Program} {i : AI} {is : List AI} {t : List (Nat × AV)} {h : Nat → Option Blk} {n : Nat} {u : Nat → Bool} {K : St → Prop} {d : Nat}  {sz bytes R : Nat} {s x : AOpr} {S X : AV} {h' : Nat → Option Blk} {m : Nat} (hk : evIs P is ⟨mkT ((d, .hdr R 0 m) :: t), h', n, uupd u R⟩ K) (hop : i.op = .app sz bytes s x := by exact rfl) (hg : i.g = none := by exact rfl) (hd : i.dst = some d := by exact rfl) (hR : n + i.k = R := by conv => lhs; (try simp)) (hs : St.val ⟨mkT t, h, n, u⟩ s = S := by conv => lhs; (try simp [hF, mkS, litA, fillA, maxI])) (hx : St.val ⟨mkT t, h, n, u⟩ x = X := by conv => lhs; (try simp [hF, mkS, litA, fillA, maxI])) (hh : (appS ⟨mkT t, h, n, u⟩ i.k sz S X).heap = h' := by conv => lhs; (try simp [hF, mkS, litA, fillA, maxI, appS])) (hm : (St.olds ⟨mkT t, h, n, u⟩ S).length + (St.news ⟨mkT t, h, n, u⟩ X).length = m := by conv => lhs; (try simp [hF, mkS, litA, fillA, maxI])) (os : St.ok ⟨mkT t, h, n, u⟩ s := by simp [hF, mkS, litA, fillA, maxI] <;> fail) (ox : St.ok ⟨mkT t, h, n, u⟩ x := by simp [hF, mkS, litA, fillA, maxI] <;> fail) (hp : appOk ⟨mkT t, h, n, u⟩ i.k sz bytes S X := by simp [hF, mkS, litA, fillA, maxI, appOk, appS] <;> fail) : evIs P (i :: is) ⟨mkT t, h, n, u⟩ K :=
  evAp (hop := hop) (hg := hg) (hd := hd) (hR := hR) (hs := hs) (hx := hx) (hh := hh) (hm := hm) (os := os) (ox := ox) (hp := hp) (hk := hk)
theorem wJ {P : Program} {i : AI} {is : List AI} {t : List (Nat × AV)} {h : Nat → Option Blk} {n : Nat} {u : Nat → Bool} {K : St → Prop} {d : Nat}  {sz bytes : Nat} {s x : AOpr} {S X V : AV} {h' : Nat → Option Blk} (hk : evIs P is ⟨mkT ((d, V) :: t), h', n, u⟩ K) (hop : i.op = .app sz bytes s x := by exact rfl) (hg : i.g = none := by exact rfl) (hd : i.dst = some d := by exact rfl) (hs : St.val ⟨mkT t, h, n, u⟩ s = S := by conv => lhs; (try simp [hF, mkS, litA, fillA, maxI])) (hx : St.val ⟨mkT t, h, n, u⟩ x = X := by conv => lhs; (try simp [hF, mkS, litA, fillA, maxI])) (hh : (intoS ⟨mkT t, h, n, u⟩ S X).heap = h' := by conv => lhs; (try simp [hF, mkS, litA, fillA, maxI, intoS])) (hm : intoV ⟨mkT t, h, n, u⟩ S X = V := by conv => lhs; (try simp [hF, mkS, litA, fillA, maxI, intoV])) (os : St.ok ⟨mkT t, h, n, u⟩ s := by simp [hF, mkS, litA, fillA, maxI] <;> fail) (ox : St.ok ⟨mkT t, h, n, u⟩ x := by simp [hF, mkS, litA, fillA, maxI] <;> fail) (hp : intoOk ⟨mkT t, h, n, u⟩ sz S X := by simp [hF, mkS, litA, fillA, maxI, intoOk] <;> fail) : evIs P (i :: is) ⟨mkT t, h, n, u⟩ K :=
  evAi (hop := hop) (hg := hg) (hd := hd) (hs := hs) (hx := hx) (hh := hh) (hm := hm) (os := os) (ox := ox) (hp := hp) (hk := hk)
theorem wX {P : Program} {i : AI} {is : List AI} {t : List (Nat × AV)} {h : Nat → Option Blk} {n : Nat} {u : Nat → Bool} {K : St → Prop}  {sz : Nat} {ag : Bool} {z : List CV} {x : AOpr} {X : AV} {h' : Nat → Option Blk} (hk : evIs P is ⟨mkT t, h', n, u⟩ K) (hop : i.op = .clr sz ag z x := by exact rfl) (hg : i.g = none := by exact rfl) (hd : i.dst = none := by exact rfl) (hx : St.val ⟨mkT t, h, n, u⟩ x = X := by conv => lhs; (try simp [hF, mkS, litA, fillA, maxI])) (hh : (clrS ⟨mkT t, h, n, u⟩ ag z X).heap = h' := by conv => lhs; (try simp [hF, mkS, litA, fillA, maxI, clrS, zeroE, closeE, closeV])) (ox : St.ok ⟨mkT t, h, n, u⟩ x := by simp [hF, mkS, litA, fillA, maxI] <;> fail) (hp : clrOk ⟨mkT t, h, n, u⟩ sz ag z X := by simp [hF, mkS, litA, fillA, maxI, clrOk, closeOk] <;> fail) : evIs P (i :: is) ⟨mkT t, h, n, u⟩ K :=
  evX (hop := hop) (hg := hg) (hd := hd) (hx := hx) (hh := hh) (ox := ox) (hp := hp) (hk := hk)
theorem wY {P : Program} {i : AI} {is : List AI} {t : List (Nat × AV)} {h : Nat → Option Blk} {n : Nat} {u : Nat → Bool} {K : St → Prop} {d : Nat}  {x l b m : AOpr} (hk : evIs P is ⟨mkT ((d, .undef) :: t), h, n, u⟩ K) (hop : i.op = .slm x l b m := by exact rfl) (hg : i.g = none := by exact rfl) (hd : i.dst = some d := by exact rfl) (hp : slmOk ⟨mkT t, h, n, u⟩ x l b m := by simp [hF, mkS, litA, fillA, maxI, slmOk, roomOf] <;> fail) : evIs P (i :: is) ⟨mkT t, h, n, u⟩ K :=
  evY (hop := hop) (hg := hg) (hd := hd) (hp := hp) (hk := hk)
theorem wL  {P : Program} {i : AI} {is : List AI} {t : List (Nat × AV)} {h : Nat → Option Blk} {n : Nat} {u : Nat → Bool} {K : St → Prop} {d : Nat} {f : Nat} {args : List AOpr} {vs : List AV} {H0 : List (Nat × Blk)} {N : Nat} {Q : List (Nat × Blk) → Nat → AV → Prop} (hk : ∀ H1 n' r, Q H1 n' r → evIs P is ⟨mkT ((d, r) :: t), over H0 H1 h, n, fun q => u q || (decide (N ≤ q) && decide (q < n'))⟩ K) (hop : i.op = .call f args := by exact rfl) (hg : i.g = none := by exact rfl) (hd : i.dst = some d := by exact rfl) (hvs : args.map (St.val ⟨mkT t, h, n, u⟩) = vs := by conv => lhs; (try simp [hF, mkS, litA, fillA, maxI])) (hA : BCall P f H0 N vs Q) (ho : ∀ x ∈ args, St.ok ⟨mkT t, h, n, u⟩ x := by simp [hF, mkS, litA, fillA, maxI] <;> fail) (hH : ∀ p ∈ H0, h p.1 = some p.2 := by simp [hF, mkS, litA, fillA, maxI] <;> fail) (hN : ∀ r, u r = true → r < N := by intro q hq; first | (simp [hF, mkS, litA, fillA, maxI] at hq; done) | (simp [hF, mkS, litA, fillA, maxI] at hq; omega)) : evIs P (i :: is) ⟨mkT t, h, n, u⟩ K :=
  evL (hop := hop) (hg := hg) (hd := hd) (hvs := hvs) (hA := hA) (ho := ho) (hH := hH) (hN := hN) (hk := hk)
theorem wL0  {P : Program} {i : AI} {is : List AI} {t : List (Nat × AV)} {h : Nat → Option Blk} {n : Nat} {u : Nat → Bool} {K : St → Prop} {f : Nat} {args : List AOpr} {vs : List AV} {H0 : List (Nat × Blk)} {N : Nat} {Q : List (Nat × Blk) → Nat → AV → Prop} (hk : ∀ H1 n' r, Q H1 n' r → evIs P is ⟨mkT t, over H0 H1 h, n, fun q => u q || (decide (N ≤ q) && decide (q < n'))⟩ K) (hop : i.op = .call f args := by exact rfl) (hg : i.g = none := by exact rfl) (hd : i.dst = none := by exact rfl) (hvs : args.map (St.val ⟨mkT t, h, n, u⟩) = vs := by conv => lhs; (try simp [hF, mkS, litA, fillA, maxI])) (hA : BCall P f H0 N vs Q) (ho : ∀ x ∈ args, St.ok ⟨mkT t, h, n, u⟩ x := by simp [hF, mkS, litA, fillA, maxI] <;> fail) (hH : ∀ p ∈ H0, h p.1 = some p.2 := by simp [hF, mkS, litA, fillA, maxI] <;> fail) (hN : ∀ r, u r = true → r < N := by intro q hq; first | (simp [hF, mkS, litA, fillA, maxI] at hq; done) | (simp [hF, mkS, litA, fillA, maxI] at hq; omega)) : evIs P (i :: is) ⟨mkT t, h, n, u⟩ K :=
  evL0 (hop := hop) (hg := hg) (hd := hd) (hvs := hvs) (hA := hA) (ho := ho) (hH := hH) (hN := hN) (hk := hk)
theorem wLv  {P : Program} {i : AI} {is : List AI} {t : List (Nat × AV)} {h : Nat → Option Blk} {n : Nat} {u : Nat → Bool} {K : St → Prop} {d : Nat} {f : Nat} {x : AOpr} {caps : List AV} {args : List AOpr} {vs : List AV} {H0 : List (Nat × Blk)} {N : Nat} {Q : List (Nat × Blk) → Nat → AV → Prop} (hk : ∀ H1 n' r, Q H1 n' r → evIs P is ⟨mkT ((d, r) :: t), over H0 H1 h, n, fun q => u q || (decide (N ≤ q) && decide (q < n'))⟩ K) (hop : i.op = .callv x args := by exact rfl) (hg : i.g = none := by exact rfl) (hd : i.dst = some d := by exact rfl) (hx : St.val ⟨mkT t, h, n, u⟩ x = .fn f caps := by conv => lhs; (try simp [hF, mkS, litA, fillA, maxI])) (hvs : args.map (St.val ⟨mkT t, h, n, u⟩) ++ caps = vs := by conv => lhs; (try simp [hF, mkS, litA, fillA, maxI])) (hA : BCall P f H0 N vs Q) (hox : St.ok ⟨mkT t, h, n, u⟩ x := by simp [hF, mkS, litA, fillA, maxI] <;> fail) (ho : ∀ x ∈ args, St.ok ⟨mkT t, h, n, u⟩ x := by simp [hF, mkS, litA, fillA, maxI] <;> fail) (hH : ∀ p ∈ H0, h p.1 = some p.2 := by simp [hF, mkS, litA, fillA, maxI] <;> fail) (hN : ∀ r, u r = true → r < N := by intro q hq; first | (simp [hF, mkS, litA, fillA, maxI] at hq; done) | (simp [hF, mkS, litA, fillA, maxI] at hq; omega)) : evIs P (i :: is) ⟨mkT t, h, n, u⟩ K :=
  evLv (hop := hop) (hg := hg) (hd := hd) (hx := hx) (hvs := hvs) (hA := hA) (hox := hox) (ho := ho) (hH := hH) (hN := hN) (hk := hk)
theorem wLv0  {P : Program} {i : AI} {is : List AI} {t : List (Nat × AV)} {h : Nat → Option Blk} {n : Nat} {u : Nat → Bool} {K : St → Prop} {f : Nat} {x : AOpr} {caps : List AV} {args : List AOpr} {vs : List AV} {H0 : List (Nat × Blk)} {N : Nat} {Q : List (Nat × Blk) → Nat → AV → Prop} (hk : ∀ H1 n' r, Q H1 n' r → evIs P is ⟨mkT t, over H0 H1 h, n, fun q => u q || (decide (N ≤ q) && decide (q < n'))⟩ K) (hop : i.op = .callv x args := by exact rfl) (hg : i.g = none := by exact rfl) (hd : i.dst = none := by exact rfl) (hx : St.val ⟨mkT t, h, n, u⟩ x = .fn f caps := by conv => lhs; (try simp [hF, mkS, litA, fillA, maxI])) (hvs : args.map (St.val ⟨mkT t, h, n, u⟩) ++ caps = vs := by conv => lhs; (try simp [hF, mkS, litA, fillA, maxI])) (hA : BCall P f H0 N vs Q) (hox : St.ok ⟨mkT t, h, n, u⟩ x := by simp [hF, mkS, litA, fillA, maxI] <;> fail) (ho : ∀ x ∈ args, St.ok ⟨mkT t, h, n, u⟩ x := by simp [hF, mkS, litA, fillA, maxI] <;> fail) (hH : ∀ p ∈ H0, h p.1 = some p.2 := by simp [hF, mkS, litA, fillA, maxI] <;> fail) (hN : ∀ r, u r = true → r < N := by intro q hq; first | (simp [hF, mkS, litA, fillA, maxI] at hq; done) | (simp [hF, mkS, litA, fillA, maxI] at hq; omega)) : evIs P (i :: is) ⟨mkT t, h, n, u⟩ K :=
  evLv0 (hop := hop) (hg := hg) (hd := hd) (hx := hx) (hvs := hvs) (hA := hA) (hox := hox) (ho := ho) (hH := hH) (hN := hN) (hk := hk)
theorem wLm0  {P : Program} {i : AI} {is : List AI} {t : List (Nat × AV)} {h : Nat → Option Blk} {n : Nat} {u : Nat → Bool} {K : St → Prop} {f : Nat} {x : AOpr} {caps : List AV} {args : List AOpr} {vs : List AV} {H0 : List (Nat × Blk)} {N : Nat} {Q : List (Nat × Blk) → Nat → AV → Prop} (hk : ∀ H1 n' r, Q H1 n' r → evIs P is ⟨mkT t, over H0 H1 h, n, fun q => u q || (decide (N ≤ q) && decide (q < n'))⟩ K) (hop : i.op = .callv x args := by exact rfl) (hg : i.g = none := by exact rfl) (hd : i.dst = none := by exact rfl) (hx : St.val ⟨mkT t, h, n, u⟩ x = .mfn f caps := by conv => lhs; (try simp [hF, mkS, litA, fillA, maxI])) (hvs : caps ++ args.map (St.val ⟨mkT t, h, n, u⟩) = vs := by conv => lhs; (try simp [hF, mkS, litA, fillA, maxI])) (hA : BCall P f H0 N vs Q) (hox : St.ok ⟨mkT t, h, n, u⟩ x := by simp [hF, mkS, litA, fillA, maxI] <;> fail) (ho : ∀ x ∈ args, St.ok ⟨mkT t, h, n, u⟩ x := by simp [hF, mkS, litA, fillA, maxI] <;> fail) (hH : ∀ p ∈ H0, h p.1 = some p.2 := by simp [hF, mkS, litA, fillA, maxI] <;> fail) (hN : ∀ r, u r = true → r < N := by intro q hq; first | (simp [hF, mkS, litA, fillA, maxI] at hq; done) | (simp [hF, mkS, litA, fillA, maxI] at hq; omega)) : evIs P (i :: is) ⟨mkT t, h, n, u⟩ K :=
  evLm0 (hop := hop) (hg := hg) (hd := hd) (hx := hx) (hvs := hvs) (hA := hA) (hox := hox) (ho := ho) (hH := hH) (hN := hN) (hk := hk)
theorem wC {P : Program} {i : AI} {is : List AI} {t : List (Nat × AV)} {h : Nat → Option Blk} {n : Nat} {u : Nat → Bool} {K : St → Prop} {d : Nat}  {f : Nat} {args : List AOpr} {vs vs' : List AV} {r r' : AV} (hk : evIs P is ⟨mkT ((d, r') :: t), h, n, u⟩ K) (hop : i.op = .call f args := by exact rfl) (hg : i.g = none := by exact rfl) (hd : i.dst = some d := by exact rfl) (had : i.ad = false := by exact rfl) (hvs : args.map (St.val ⟨mkT t, h, n, u⟩) = vs := by conv => lhs; (try simp [hF, mkS, litA, fillA, maxI])) (hvs' : vs.map (fzA h) = vs' := by conv => lhs; (try simp [hF, mkS, litA, fillA, maxI, fzB, fzQ])) (hA : ACall P f vs' (· = r)) (hr : clC r = r' := by conv => lhs; (try simp [hF, mkS, litA, fillA, maxI, fzB, fzQ])) (ho : ∀ x ∈ args, St.ok ⟨mkT t, h, n, u⟩ x := by simp [hF, mkS, litA, fillA, maxI] <;> fail) (hcl : okAs noF noF vs ∨ (okAs (okB h) (okQ h) vs ∧ sc r = true) := by simp [hF, mkS, litA, fillA, maxI, okB, okQ, noF, sc, scs] <;> fail) : evIs P (i :: is) ⟨mkT t, h, n, u⟩ K :=
  evC (hop := hop) (hg := hg) (hd := hd) (had := had) (hvs := hvs) (hvs' := hvs') (hA := hA) (hr := hr) (ho := ho) (hcl := hcl) (hk := hk)
theorem wV {P : Program} {i : AI} {is : List AI} {t : List (Nat × AV)} {h : Nat → Option Blk} {n : Nat} {u : Nat → Bool} {K : St → Prop} {d : Nat}  {f : Nat} {x : AOpr} {caps : List AV} {args : List AOpr} {vs vs' : List AV} {r r' : AV} (hk : evIs P is ⟨mkT ((d, r') :: t), h, n, u⟩ K) (hop : i.op = .callv x args := by exact rfl) (hg : i.g = none := by exact rfl) (hd : i.dst = some d := by exact rfl) (had : i.ad = false := by exact rfl) (hx : St.val ⟨mkT t, h, n, u⟩ x = .fn f caps := by conv => lhs; (try simp [hF, mkS, litA, fillA, maxI])) (hvs : args.map (St.val ⟨mkT t, h, n, u⟩) ++ caps = vs := by conv => lhs; (try simp [hF, mkS, litA, fillA, maxI])) (hvs' : vs.map (fzA h) = vs' := by conv => lhs; (try simp [hF, mkS, litA, fillA, maxI, fzB, fzQ])) (hA : ACall P f vs' (· = r)) (hr : clC r = r' := by conv => lhs; (try simp [hF, mkS, litA, fillA, maxI, fzB, fzQ])) (hox : St.ok ⟨mkT t, h, n, u⟩ x := by simp [hF, mkS, litA, fillA, maxI] <;> fail) (ho : ∀ x ∈ args, St.ok ⟨mkT t, h, n, u⟩ x := by simp [hF, mkS, litA, fillA, maxI] <;> fail) (hcl : okAs noF noF vs ∨ (okAs (okB h) (okQ h) vs ∧ sc r = true) := by simp [hF, mkS, litA, fillA, maxI, okB, okQ, noF, sc, scs] <;> fail) : evIs P (i :: is) ⟨mkT t, h, n, u⟩ K :=
  evCv (hop := hop) (hg := hg) (hd := hd) (had := had) (hx := hx) (hvs := hvs) (hvs' := hvs') (hA := hA) (hr := hr) (hox := hox) (ho := ho) (hcl := hcl) (hk := hk)
theorem wA {P : Program} {i : AI} {is : List AI} {t : List (Nat × AV)} {h : Nat → Option Blk} {n : Nat} {u : Nat → Bool} {K : St → Prop} {d : Nat}  {f sz R : Nat} {args : List AOpr} {vs vs' xs : List AV} (hk : evIs P is ⟨mkT ((d, .hdr R 0 xs.length) :: t), hupd h R (some ⟨sz, false, xs⟩), n, uupd u R⟩ K) (hop : i.op = .call f args := by exact rfl) (hg : i.g = none := by exact rfl) (hd : i.dst = some d := by exact rfl) (had : i.ad = true := by exact rfl) (hR : n + i.k = R := by conv => lhs; (try simp)) (hvs : args.map (St.val ⟨mkT t, h, n, u⟩) = vs := by conv => lhs; (try simp [hF, mkS, litA, fillA, maxI])) (hvs' : vs.map (fzA h) = vs' := by conv => lhs; (try simp [hF, mkS, litA, fillA, maxI, fzB, fzQ])) (hA : ACall P f vs' (· = .sl (.own sz) xs)) (ho : ∀ x ∈ args, St.ok ⟨mkT t, h, n, u⟩ x := by simp [hF, mkS, litA, fillA, maxI] <;> fail) (hcl : okAs noF noF vs ∨ (okAs (okB h) (okQ h) vs ∧ scs xs = true) := by simp [hF, mkS, litA, fillA, maxI, okB, okQ, noF, sc, scs] <;> fail) (hu : u R = false := by simp [hF, mkS, litA, fillA, maxI] <;> fail) (hz : 0 < sz := by simp [hF, mkS, litA, fillA, maxI] <;> fail) : evIs P (i :: is) ⟨mkT t, h, n, u⟩ K :=
  evCa (hop := hop) (hg := hg) (hd := hd) (had := had) (hR := hR) (hvs := hvs) (hvs' := hvs') (hA := hA) (ho := ho) (hcl := hcl) (hu := hu) (hz := hz) (hk := hk)
theorem wB  {P : Program} {i : AI} {is : List AI} {t : List (Nat × AV)} {h : Nat → Option Blk} {n : Nat} {u : Nat → Bool} {K : St → Prop} {d : Nat} {f : Nat} {args : List AOpr} {vs vs' : List AV} {B : Bool → Prop} (hk : ∀ b, B b → evIs P is ⟨mkT ((d, .bool b) :: t), h, n, u⟩ K) (hop : i.op = .call f args := by exact rfl) (hg : i.g = none := by exact rfl) (hd : i.dst = some d := by exact rfl) (had : i.ad = false := by exact rfl) (hvs : args.map (St.val ⟨mkT t, h, n, u⟩) = vs := by conv => lhs; (try simp [hF, mkS, litA, fillA, maxI])) (hvs' : vs.map (fzA h) = vs' := by conv => lhs; (try simp [hF, mkS, litA, fillA, maxI, fzB, fzQ])) (hA : ACall P f vs' (fun r => ∃ b, r = .bool b ∧ B b)) (ho : ∀ x ∈ args, St.ok ⟨mkT t, h, n, u⟩ x := by simp [hF, mkS, litA, fillA, maxI] <;> fail) (hcl : okAs noF noF vs ∨ okAs (okB h) (okQ h) vs := by simp [hF, mkS, litA, fillA, maxI, okB, okQ, noF, sc, scs] <;> fail) : evIs P (i :: is) ⟨mkT t, h, n, u⟩ K :=
  evCb (hop := hop) (hg := hg) (hd := hd) (had := had) (hvs := hvs) (hvs' := hvs') (hA := hA) (ho := ho) (hcl := hcl) (hk := hk)
theorem wI  {P : Program} {i : AI} {is : List AI} {t : List (Nat × AV)} {h : Nat → Option Blk} {n : Nat} {u : Nat → Bool} {K : St → Prop} {d : Nat} {f : Nat} {args : List AOpr} {vs vs' : List AV} {B : Int → Prop} (hk : ∀ b, B b → evIs P is ⟨mkT ((d, AV.int .i64 b) :: t), h, n, u⟩ K) (hop : i.op = .call f args := by exact rfl) (hg : i.g = none := by exact rfl) (hd : i.dst = some d := by exact rfl) (had : i.ad = false := by exact rfl) (hvs : args.map (St.val ⟨mkT t, h, n, u⟩) = vs := by conv => lhs; (try simp [hF, mkS, litA, fillA, maxI])) (hvs' : vs.map (fzA h) = vs' := by conv => lhs; (try simp [hF, mkS, litA, fillA, maxI, fzB, fzQ])) (hA : ACall P f vs' (fun r => ∃ b, r = AV.int .i64 b ∧ B b)) (ho : ∀ x ∈ args, St.ok ⟨mkT t, h, n, u⟩ x := by simp [hF, mkS, litA, fillA, maxI] <;> fail) (hcl : okAs noF noF vs ∨ okAs (okB h) (okQ h) vs := by simp [hF, mkS, litA, fillA, maxI, okB, okQ, noF, sc, scs] <;> fail) : evIs P (i :: is) ⟨mkT t, h, n, u⟩ K :=
  evCi (hop := hop) (hg := hg) (hd := hd) (had := had) (hvs := hvs) (hvs' := hvs') (hA := hA) (ho := ho) (hcl := hcl) (hk := hk)
theorem wD1  {P : Program} {is : List AI} {ws : List (Nat × List Nat)} {i : Nat} {ii : AI} {s : Sch} {l : List Nat} {st : St} {K : St → Prop} (h : evIs P [ii] st (fun st' => rechecks is st' l ∧ evT P is ws s st' K)) (hi : is[i]? = some ii := by exact rfl) (hg : ii.g = none := by exact rfl) (hl : wsOf ws i = l := by exact rfl) : evT P is ws (.take i s) st K :=
  evD1 (hi := hi) (hg := hg) (hl := hl) (h := h)
theorem wD2  {P : Program} {is : List AI} {ws : List (Nat × List Nat)} {i : Nat} {ii : AI} {s : Sch} {l : List Nat} {st : St} {K : St → Prop} (h : evIs P [ii] st (fun st' => rechecks is st' l ∧ evT P is ws s st' K)) (hi : is[i]? = some ii := by exact rfl) (hg : ii.g = none := by exact rfl) (hl : wsOf ws i = l := by exact rfl) : evT P is ws (.one i s) st K :=
  evD2 (hi := hi) (hg := hg) (hl := hl) (h := h)
theorem wE1  {P : Program} {is : List AI} {ws : List (Nat × List Nat)} {i : Nat} {ii : AI} {s : Sch} {l : List Nat} {st : St} {K : St → Prop} {g : Nat} {b : Bool} (h : evIs P [ii] st (fun st' => rechecks is st' l ∧ evT P is ws s st' K)) (hi : is[i]? = some ii := by exact rfl) (hg : ii.g = some (g, b) := by exact rfl) (hl : wsOf ws i = l := by exact rfl) (hc : gcond st g b = true := by simp [hF, mkS, litA, fillA, maxI] <;> fail) : evT P is ws (.take i s) st K :=
  evD1g (hi := hi) (hg := hg) (hl := hl) (hc := hc) (h := h)
theorem wE2  {P : Program} {is : List AI} {ws : List (Nat × List Nat)} {i : Nat} {ii : AI} {s : Sch} {l : List Nat} {st : St} {K : St → Prop} {g : Nat} {b : Bool} (h : evIs P [ii] st (fun st' => rechecks is st' l ∧ evT P is ws s st' K)) (hi : is[i]? = some ii := by exact rfl) (hg : ii.g = some (g, b) := by exact rfl) (hl : wsOf ws i = l := by exact rfl) (hc : gcond st g b = true := by simp [hF, mkS, litA, fillA, maxI] <;> fail) : evT P is ws (.one i s) st K :=
  evD2g (hi := hi) (hg := hg) (hl := hl) (hc := hc) (h := h)
theorem wE3  {P : Program} {is : List AI} {ws : List (Nat × List Nat)} {i : Nat} {ii : AI} {s : Sch} {l : List Nat} {t : List (Nat × AV)} {h : Nat → Option Blk} {n : Nat} {u : Nat → Bool} {K : St → Prop} {d g : Nat} {b : Bool} (hr : ∀ X, evIs P [] ⟨mkT ((d, .grd false X) :: t), h, n, u⟩ (fun st' => rechecks is st' l ∧ evT P is ws s st' K)) (hi : is[i]? = some ii := by exact rfl) (hg : ii.g = some (g, b) := by exact rfl) (hl : wsOf ws i = l := by exact rfl) (hq : ii.op.quiet = true := by exact rfl) (hd : ii.dst = some d := by exact rfl) (hc : gcond ⟨mkT t, h, n, u⟩ g b = false := by simp [hF, mkS, litA, fillA, maxI] <;> fail) (hk : gok ⟨mkT t, h, n, u⟩ g := by simp [hF, mkS, litA, fillA, maxI] <;> fail) : evT P is ws (.take i s) ⟨mkT t, h, n, u⟩ K :=
  evD1f (hi := hi) (hg := hg) (hl := hl) (hq := hq) (hd := hd) (hc := hc) (hk := hk) (hr := hr)
theorem wE4  {P : Program} {is : List AI} {ws : List (Nat × List Nat)} {i : Nat} {ii : AI} {s : Sch} {l : List Nat} {t : List (Nat × AV)} {h : Nat → Option Blk} {n : Nat} {u : Nat → Bool} {K : St → Prop} {d g : Nat} {b : Bool} (hr : ∀ X, evIs P [] ⟨mkT ((d, .grd false X) :: t), h, n, u⟩ (fun st' => rechecks is st' l ∧ evT P is ws s st' K)) (hi : is[i]? = some ii := by exact rfl) (hg : ii.g = some (g, b) := by exact rfl) (hl : wsOf ws i = l := by exact rfl) (hq : ii.op.quiet = true := by exact rfl) (hd : ii.dst = some d := by exact rfl) (hc : gcond ⟨mkT t, h, n, u⟩ g b = false := by simp [hF, mkS, litA, fillA, maxI] <;> fail) (hk : gok ⟨mkT t, h, n, u⟩ g := by simp [hF, mkS, litA, fillA, maxI] <;> fail) : evT P is ws (.one i s) ⟨mkT t, h, n, u⟩ K :=
  evD2f (hi := hi) (hg := hg) (hl := hl) (hq := hq) (hd := hd) (hc := hc) (hk := hk) (hr := hr)
theorem wN  {P : Program} {is : List AI} {ws : List (Nat × List Nat)} {s : Sch} {l : List Nat} {st : St} {K : St → Prop} (h : evT P is ws s st K) (hr : rechecks is st l := by first | exact trivial | (simp [hF, mkS, litA, fillA, maxI, wsOf, List.lookup, rechecks, recheck, ok1, val1] <;> fail)) : evIs P [] st (fun st' => rechecks is st' l ∧ evT P is ws s st' K) :=
  evN (hr := hr) (h := h)
end Go.Amb

set_option linter.unusedSimpArgs false
set_option linter.unusedVariables false
namespace Go.Amb
open Go Go.RowKit

theorem RootRel.less {w : World} {O O' : Nat → Prop} {B : Nat} {pl : Pls} {r : Nat} {blk : Blk} {f : List Nat} (h : RootRel w O B pl r blk f) (hO : ∀ b, b < w.heap.size → ¬ O b → ¬ O' b) : RootRel w O' B pl r blk f := by
  cases h with
  | emp h he hz => exact .emp h he hz
  | blk h hr hl hz hu h1 hn hc ha => exact .blk h hr hl hz hu h1 hn (hc.shift (fun _ _ _ => rfl) (Nat.le_refl _) hO _ (fun _ _ h => h)) ha

theorem Fit.freeze {t : List (Nat × AV)} {h : Nat → Option Blk} {n : Nat} {u : Nat → Bool} {d r off len : Nat} {b : Blk} (hd : mkT t d = .hdr r off len) (hb : h r = some b) (hbox : b.box = false) (hle : off + len ≤ b.es.length) :
    Fit ⟨mkT t, h, n, u⟩ ⟨mkT ((d, .sl .fro (((b.es.drop off).take len).map clC)) :: t), hupd h r none, n, u⟩ := by
  rintro E a w ⟨pl, fp, hR⟩
  generalize hst : (⟨mkT t, h, n, u⟩ : St) = st at hR
  generalize hst' : (⟨mkT ((d, .sl .fro (((b.es.drop off).take len).map clC)) :: t), hupd h r none, n, u⟩ : St) = st'
  have hh : st.heap = h := by rw [← hst]
  have hh' : st'.heap = hupd h r none := by rw [← hst']
  have hlr : (st.heap r).isSome = true := by rw [hh, hb]; rfl
  have live : ∀ q, (st'.heap q).isSome = true → q ≠ r ∧ (st.heap q).isSome = true := by
    intro q hq
    rw [hh'] at hq
    unfold hupd at hq
    split at hq
    · simp at hq
    · rename_i hne; exact ⟨hne, by rw [hh]; exact hq⟩
  have hO : ∀ x, x < w.heap.size → ¬ Own E st fp x → ¬ Own E st' fp x := by
    intro x _ hn' ho
    rcases ho with ho | ⟨q, hq, hx⟩
    · exact hn' (.inl ho)
    · exact hn' (.inr ⟨q, (live q hq).2, hx⟩)
  refine ⟨pl, fp, ?_⟩
  have hu : st'.us = st.us := by rw [← hst, ← hst']
  constructor
  · exact hR.size
  · exact hR.defers
  · exact hR.plx
  · intro q hq; rw [hu] at hq; exact hR.unused q hq
  · intro q hq; rw [hu]; exact hR.used q (live q hq).2
  · intro q hq; rw [hu]; exact hR.usnb q hq
  · intro q blk hq
    obtain ⟨hne, _⟩ := live q (by rw [hq]; rfl)
    have hq' : st.heap q = some blk := by
      rw [hh'] at hq
      unfold hupd at hq
      rw [if_neg hne] at hq
      rw [hh]; exact hq
    exact (hR.roots q blk hq').less hO
  · intro q hq; exact hR.nodup q (live q hq).2
  · intro q hq; exact hR.own q (live q hq).2
  · intro q q' x hq hq'; exact hR.disj q q' x (live q hq).2 (live q' hq').2
  · exact hR.xold
  · exact hR.gold
  · intro k hk
    by_cases hkd : k = d
    · subst hkd
      have htk : st.tmp k = .hdr r off len := by rw [← hst]; exact hd
      obtain ⟨v, hv1, hv2⟩ := hR.tmps k (by rw [htk]; simp)
      rw [htk] at hv2
      have hc : closeOk st.heap (.hdr r off len) := by
        simp only [closeOk, hh, hb]
        exact ⟨hbox, hle⟩
      obtain ⟨f, h1, _, h3⟩ := close1 hR hv2 hc
      have h2 := map_vals (fh := nilF) (fq := nilF) (oh := noF) (oq := noF) (pl0 := noPl) (O' := Own E st' fp) (B' := E.w0.heap.size) nilF_one nilF_one (fun _ _ _ _ h => h.elim) (fun _ _ _ _ h => h.elim) hO h1 (.inr rfl) (by
        intro x hx ho
        obtain ⟨q, hq, _, hxq⟩ := h3 x hx
        simp only [usedV, List.mem_singleton] at hq
        subst hq
        rcases ho with ho | ⟨q', hq', hx'⟩
        · exact (hR.own q hlr x hxq).2.2 ho
        · exact hR.disj q q' x hlr (live q' hq').2 (fun e => (live q' hq').1 e.symm) hxq hx')
      refine ⟨v, hv1, ?_⟩
      have e : st'.tmp k = .sl .fro (((b.es.drop off).take len).map clC) := by rw [← hst']; simp
      rw [e]
      simp only [closeV, hh, hb, mapAs, mapA] at h2
      have h4 := h2.shift (w' := w) (O' := Own E st' fp) (B' := E.w0.heap.size) (fun _ _ _ => rfl) (Nat.le_refl _) (fun _ _ h => h) pl (fun _ _ h => by cases h)
      simpa [mapAs_eq, clC] using h4
    · have e : st'.tmp k = st.tmp k := by rw [← hst, ← hst']; simp [hkd]
      rw [e] at hk ⊢
      obtain ⟨v, hv1, hv2⟩ := hR.tmps k hk
      exact ⟨v, hv1, hv2.shift (fun _ _ _ => rfl) (Nat.le_refl _) hO _ (fun _ _ h => h)⟩
  · exact hR.keeps
end Go.Amb
