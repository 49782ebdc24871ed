/- append, on the abstract side. -/
import Derived.Test.YtdnpnokplfemfaaA1
import Derived.Laws.BytesString
import Derived.Laws.MakeOwn
import Derived.Laws.Externs
import Derived.Laws.IdiomStrings
import Derived.Lib.Overlaps

set_option linter.unusedSimpArgs false
set_option linter.unusedVariables false
namespace Go.Amb
open Go Go.RowKit

section
variable {E : Env} {st : St} {a : Act} {w w' : World} {pl pl' : Pls} {fp : Nat → List Nat}

theorem usedE_live {h : Nat → Option Blk} {xs : List AV} (hok : ∀ x ∈ xs, ∀ c ∈ cellsOf x, closeOk h c) : ∀ q ∈ usedE xs, (h q).isSome = true := by
  intro q hq
  obtain ⟨c, hc, hq⟩ := List.mem_flatMap.1 hq
  obtain ⟨x, hx, hcx⟩ := List.mem_flatMap.1 hc
  have := hok x hx c hcx
  cases c <;> simp [usedV] at hq
  subst hq
  simp only [closeOk] at this
  cases hb : h q with
  | none => simp [hb] at this
  | some b => rfl

theorem flat_len {ys : List AV} {sz : Nat} {O : Nat → Prop} {B : Nat} {pl : Pls} {cs : List Value} {f : List Nat} (hv : Vals w O B pl (flat ys) cs f) (hu : ∀ x ∈ ys, (cellsOf x).length = sz) : cs.length = ys.length * sz := by
  rw [hv.length, flat_length hu]

/-- The new row, where a new block was made. -/
theorem app_grow (hR : RelW E st a w pl fp) {k sz : Nat} {S X : AV} {v : Value} (hus : st.us (st.nx + k) = false) (h0 : 0 < sz) {A1 : Option Addr} (ho : NewsOk st w (Own E st fp) E.w0.heap.size fp (st.olds S) (St.oldsUsed S) A1 sz)
    {ncs : List Value} {fn : List Nat} (vn : Vals w (Own E st fp) E.w0.heap.size noPl (flat (st.news X)) ncs fn) (dn : fn.Nodup) (mn : ∀ b ∈ fn, ∃ r ∈ St.newsUsed X, (st.heap r).isSome = true ∧ b ∈ fp r) (un : ∀ x ∈ st.news X, (cellsOf x).length = sz) (on : ∀ x ∈ flat (st.news X), x.one = true) (hlive : ∀ q ∈ St.oldsUsed S ++ St.newsUsed X, (st.heap q).isSome = true) (hnd : (St.oldsUsed S ++ St.newsUsed X).Nodup)
    (hrun : ∀ ocs, (ocs.length = (st.olds S).length * sz ∧ (0 < (st.olds S).length → ∃ b p, A1 = some ⟨b, p, none⟩ ∧ At w b p ocs)) →
      ∃ cap ty zs, (st.olds S).length + (st.news X).length ≤ cap ∧ zs.length = (cap - ((st.olds S).length + (st.news X).length)) * sz ∧ (∀ v ∈ zs, v.oneCell' = true) ∧ w' = w.drew.alloc (.cells (ocs ++ ncs ++ zs).toArray ty) ∧ v = .slice (some ⟨w.heap.size, 0, none⟩) ((st.olds S).length + (st.news X).length) cap) :
    ∃ pl' fp', RelW E (appS st k sz S X) a w' pl' fp' ∧ Vals w' (Own E (appS st k sz S X) fp') E.w0.heap.size pl' [appV st k S X] [v] [] := by
  obtain ⟨⟨ocs, fo, vo, do_, mo, ao⟩, uo, oo⟩ := ho
  obtain ⟨cap, ty, zs, hcap, hzs, hz1, rfl, rfl⟩ := hrun ocs ⟨flat_len vo uo, ao⟩
  have hlo := flat_len vo uo
  have hln := flat_len vn un
  have hB : Below w.heap.size w (w.drew.alloc (.cells (ocs ++ ncs ++ zs).toArray ty)) := (Below.refl _ _).drew.alloc (Nat.le_refl _) _
  obtain ⟨hnd1, hnd2, hnd3⟩ := List.nodup_append.1 hnd
  let p : Pl := ⟨some w.heap.size, 0, sz, cap⟩
  have hplr : pl (st.nx + k) = none := hR.unused _ hus
  have hdead : st.heap (st.nx + k) = none := by
    cases h : st.heap (st.nx + k) with
    | none => rfl
    | some x => have := hR.used _ (by rw [h]; rfl); rw [hus] at this; cases this
  have hfd : (fo ++ fn).Nodup := by
    rw [List.nodup_append]
    refine ⟨do_, dn, fun b hb b' hb' e => ?_⟩
    subst e
    obtain ⟨r, hr, hl, hbr⟩ := mo b hb
    obtain ⟨r', hr', hl', hbr'⟩ := mn b hb'
    exact hR.disj r r' b hl hl' (hnd3 r hr r' hr') hbr hbr'
  have hfm : ∀ b ∈ fo ++ fn, ∃ q ∈ St.oldsUsed S ++ St.newsUsed X, b ∈ fp q := by
    intro b hb
    rcases List.mem_append.1 hb with hb | hb
    · obtain ⟨r, hr, _, h⟩ := mo b hb; exact ⟨r, List.mem_append_left _ hr, h⟩
    · obtain ⟨r, hr, _, h⟩ := mn b hb; exact ⟨r, List.mem_append_right _ hr, h⟩
  have hlt : ∀ b ∈ fo ++ fn, b < w.heap.size := by
    intro b hb
    obtain ⟨q, hq, hbq⟩ := hfm b hb
    exact (hR.own q (hlive q hq) b hbq).1
  have hch := hR.change (w' := w.drew.alloc (.cells (ocs ++ ncs ++ zs).toArray ty)) (pl' := plAdd pl (st.nx + k) p) (St.oldsUsed S ++ St.newsUsed X) (st.nx + k) ⟨sz, false, st.olds S ++ st.news X⟩ (w.heap.size :: (fo ++ fn)) (uupd st.us (st.nx + k))
    (Same.of_below hB) (fun b hb _ => hB.block b hb) hlive (fun h => by rw [hdead] at h; cases h) (fun q hq => by simp [plAdd, hq]) (fun x hx => by rw [hplr] at hx; cases hx)
    (fun h => by have := hR.usnb _ h; rw [hus] at this; cases this) (by simp [uupd]) (fun q hq => by simp [uupd, hq])
    (fun b hb => by
      rcases List.mem_cons.1 hb with rfl | hb
      · exact ⟨by rw [alloc_size]; exact Nat.lt_succ_self _, .inl (Nat.le_refl _)⟩
      · exact ⟨by have := hlt b hb; rw [alloc_size]; exact Nat.lt_succ_of_lt this, .inr (hfm b hb)⟩)
    (List.nodup_cons.2 ⟨fun hb => Nat.lt_irrefl _ (hlt _ hb), hfd⟩)
    (fun hO => by
      have hmv : ∀ {ys : List AV} {cs : List Value} {f : List Nat}, Vals w (Own E st fp) E.w0.heap.size noPl ys cs f → Vals (w.drew.alloc (.cells (ocs ++ ncs ++ zs).toArray ty)) _ E.w0.heap.size noPl ys cs f :=
        fun hv => hv.move (fun b _ hl => hB.block b hl) hB.size hO (Nat.le_refl _) _ (fun _ _ h => h)
      have hat : At (w.drew.alloc (.cells (ocs ++ ncs ++ zs).toArray ty)) w.heap.size 0 (ocs ++ ncs ++ zs) := by simpa using at_new (w := w.drew) (c := (ocs ++ ncs ++ zs).toArray) (t := ty)
      refine .blk (b := w.heap.size) (j := 0) (cap := cap) (cs := ocs ++ ncs) (by simp [plAdd, p]) (row_new (w := w.drew) ?_ ?_) (by rw [alloc_size]; exact Nat.lt_succ_self _) h0 ?_ ?_ ?_ ?_ (by simpa using hat.take)
      · simp only [List.size_toArray, List.length_append, hlo, hln, hzs, ← Nat.add_mul]
        congr 1; omega
      · intro v hv
        simp only [List.mem_append] at hv
        rcases hv with (hv | hv) | hv
        · exact vals_oneCell vo oo v hv
        · exact vals_oneCell vn on v hv
        · exact hz1 v hv
      · intro x hx
        rcases List.mem_append.1 hx with hx | hx
        · exact uo x hx
        · exact un x hx
      · intro x hx
        simp only [flat_append] at hx
        rcases List.mem_append.1 hx with hx | hx
        · exact oo x hx
        · exact on x hx
      · simpa using hcap
      · simp only [Bool.false_eq_true, if_false, flat_append]
        exact (hmv vo).append (hmv vn))
  refine ⟨_, _, hch.1, ?_⟩
  have := Vals.hdr (w := w.drew.alloc (.cells (ocs ++ ncs ++ zs).toArray ty)) (O := Own E (appS st k sz S X) (fpAdd fp (st.nx + k) (w.heap.size :: (fo ++ fn)))) (B := E.w0.heap.size) (pl := plAdd pl (st.nx + k) p) (r := st.nx + k) (off := 0) (len := (st.olds S).length + (st.news X).length)
    (b := w.heap.size) (j := 0) (sz := sz) (cap := cap) (A := some ⟨w.heap.size, 0, none⟩) (by simp [plAdd, p]) (by omega) (.inl (by simp)) .nil
  simpa [appV] using this

/-- Nothing is there and nothing comes. -/
theorem app_empty (hR : RelW E st a w pl fp) {k sz : Nat} {S X : AV} (hus : st.us (st.nx + k) = false) (h0 : 0 < sz) {A : Option Addr} (ho : st.olds S = []) (hn : st.news X = []) (hlive : ∀ q ∈ St.oldsUsed S ++ St.newsUsed X, (st.heap q).isSome = true) :
    ∃ pl' fp', RelW E (appS st k sz S X) a w pl' fp' ∧ Vals w (Own E (appS st k sz S X) fp') E.w0.heap.size pl' [appV st k S X] [.slice A 0 0] [] := by
  let p : Pl := ⟨none, 0, sz, 0⟩
  have hplr : pl (st.nx + k) = none := hR.unused _ hus
  have hdead : st.heap (st.nx + k) = none := by
    cases h : st.heap (st.nx + k) with
    | none => rfl
    | some x => have := hR.used _ (by rw [h]; rfl); rw [hus] at this; cases this
  have hch := hR.change (w' := w) (pl' := plAdd pl (st.nx + k) p) (St.oldsUsed S ++ St.newsUsed X) (st.nx + k) ⟨sz, false, st.olds S ++ st.news X⟩ [] (uupd st.us (st.nx + k))
    (Same.refl w) (fun b hb _ => rfl) hlive (fun h => by rw [hdead] at h; cases h) (fun q hq => by simp [plAdd, hq]) (fun x hx => by rw [hplr] at hx; cases hx)
    (fun h => by have := hR.usnb _ h; rw [hus] at this; cases this) (by simp [uupd]) (fun q hq => by simp [uupd, hq]) (by simp) (by simp)
    (fun hO => .emp (j := 0) (by simp [plAdd, p]) (by simp [ho, hn]) h0)
  refine ⟨_, _, hch.1, ?_⟩
  have := Vals.hdre (w := w) (O := Own E (appS st k sz S X) (fpAdd fp (st.nx + k) [])) (B := E.w0.heap.size) (pl := plAdd pl (st.nx + k) p) (r := st.nx + k) (j := 0) (sz := sz) (A := A) (vs := []) (us := []) (fp := []) (by simp [plAdd, p]) .nil
  simpa [appV, ho, hn] using this
end
end Go.Amb

set_option linter.unusedSimpArgs false
set_option linter.unusedVariables false
namespace Go.Amb
open Go Go.RowKit

section
variable {E : Env} {st : St} {a : Act} {w w' : World} {pl pl' : Pls} {fp : Nat → List Nat} {o : Oper} {k : Nat}

/-- What is appended to. -/
theorem olds_sound (hR : RelW E st a w pl fp) {S : AV} {u : Value} {sz m : Nat} (hv : Vals w (Own E st fp) E.w0.heap.size pl [S] [u] []) (hok : st.oldsOk sz m S) (hn : (St.oldsUsed S).Nodup) :
    ∃ A c, u = .slice A (st.olds S).length c ∧ NewsOk st w (Own E st fp) E.w0.heap.size fp (st.olds S) (St.oldsUsed S) A sz ∧ (∀ q ∈ St.oldsUsed S, (st.heap q).isSome = true) ∧
      ((c = (st.olds S).length ∧ (st.olds S = [] ∨ 0 < m)) ∨
       ∃ r b j cap, St.oldsUsed S = [r] ∧ c = cap ∧ b ∈ fp r ∧ RowAt w b ((j + cap) * sz) ∧ (A = some ⟨b, j * sz, none⟩ ∨ cap = 0) ∧ (st.olds S).length ≤ cap ∧
        ∃ cs f, Vals w (Own E st fp) E.w0.heap.size noPl (flat (st.olds S)) cs f ∧ (b :: f).Nodup ∧ (∀ x ∈ f, x ∈ fp r) ∧ At w b (j * sz) cs) := by
  cases S <;> first | exact hok.elim | skip
  · rename_i K xs
    cases K <;> first | exact hok.elim | skip
    obtain ⟨h1, h2⟩ := hok
    obtain ⟨A, h3, h4⟩ := ext_news hR hv h2 hn
    refine ⟨A, xs.length, by simpa [St.olds] using h3, h4, usedE_live (fun x hx => (h2 x hx).2), .inl ⟨by simp [St.olds], by simpa [St.olds] using h1⟩⟩
  · rename_i r off n
    obtain ⟨h1, h2, h3, h4⟩ := hok
    obtain ⟨blk, hb⟩ := Option.isSome_iff_exists.1 h1
    rw [blk_eq hb] at h2 h3 h4
    have holds : st.olds (.hdr r off n) = blk.es.drop off := by simp [St.olds, blk_eq hb]
    have hlen : (blk.es.drop off).length = n := by rw [List.length_drop]; omega
    have htake : (blk.es.drop off).take n = blk.es.drop off := List.take_of_length_le (by omega)
    rw [holds]
    have hlv : ∀ q ∈ St.oldsUsed (.hdr r off n), (st.heap q).isSome = true := by intro q hq; simp [St.oldsUsed] at hq; subst hq; exact h1
    obtain ⟨hz, ⟨j, h, he, -⟩ | ⟨b, j, cap, cs, fp1, h, hr, hl, hu, ho, hn', hc, ha, hfe⟩⟩ := (hR.roots r blk hb).inv
    · cases hv with
      | hdr h' hn hA t => rw [h] at h'; cases h'
      | hdre h' t =>
        have hnil : blk.es.drop 0 = [] := by rw [he]; rfl
        rw [hnil]
        exact ⟨_, 0, rfl, ⟨⟨[], [], .nil, by simp, by simp, by simp⟩, by simp, by simp [flat]⟩, hlv, .inl ⟨rfl, .inl rfl⟩⟩
    · cases hv with
      | hdre h' t => rw [h] at h'; cases h'
      | @hdr _ _ _ _ b' j' sz' cap' A _ _ _ h' hn'' hA t =>
        rw [h] at h'
        injection h' with h'
        injection h' with e1 e2 e3 e4
        injection e1 with e1
        subst e1 e2 e3 e4
        rw [h2] at hc
        simp only [Bool.false_eq_true, if_false] at hc
        obtain ⟨ds, g, v1, v2, v3⟩ := sub_row hu hc ha off n (by omega)
        rw [htake] at v1
        have hnd := hR.nodup r h1
        rw [hfe] at hnd
        have hgf : ∀ x ∈ g, x ∈ fp r := fun x hx => by rw [hfe]; exact List.mem_cons_of_mem _ (v3.subset hx)
        have hbg : (b :: g).Nodup := hnd.sublist (v3.cons_cons b)
        have hat : At w b ((j + off) * blk.sz) ds := by rw [Nat.add_mul]; exact v2
        refine ⟨A, cap - off, by rw [hlen], ⟨⟨ds, g, v1, (List.nodup_cons.1 hbg).2, fun x hx => ⟨r, by simp [St.oldsUsed], h1, hgf x hx⟩, fun hp => ⟨b, _, hA.resolve_right (by rw [hlen] at hp; omega), hat⟩⟩, ?_, ?_⟩, hlv, .inr ⟨r, b, j + off, cap - off, rfl, rfl, by rw [hfe]; simp, ?_, ?_, by rw [hlen]; omega, ds, g, v1, hbg, hgf, by rw [← h4]; exact hat⟩⟩
        · intro x hx
          rw [hu x (List.mem_of_mem_drop hx), h4]
        · intro x hx
          refine ho x ?_
          have e : blk.es = blk.es.take off ++ blk.es.drop off := by rw [List.take_append_drop]
          rw [e, flat_append]
          simp [hx]
        · rw [← h4]; exact hr.eq (by congr 1; omega)
        · rw [← h4]
          rcases hA with hA | hA
          · exact .inl hA
          · exact .inr (by omega)

/-- The new row, in the old block. -/
theorem app_room (hR : RelW E st a w pl fp) {sz : Nat} {S X : AV} (hus : st.us (st.nx + k) = false) (h0 : 0 < sz) {A : Option Addr} {r b j cap : Nat} (hu1 : St.oldsUsed S = [r]) (hbr : b ∈ fp r) (hrow : RowAt w b ((j + cap) * sz)) (hA : A = some ⟨b, j * sz, none⟩ ∨ cap = 0)
    (hroom : (st.olds S).length + (st.news X).length ≤ cap) {ocs : List Value} {fo : List Nat} (vo : Vals w (Own E st fp) E.w0.heap.size noPl (flat (st.olds S)) ocs fo) (hbf : (b :: fo).Nodup) (hfo : ∀ x ∈ fo, x ∈ fp r) (hao : At w b (j * sz) ocs)
    (uo : ∀ x ∈ st.olds S, (cellsOf x).length = sz) (oo : ∀ x ∈ flat (st.olds S), x.one = true)
    {ncs : List Value} {fn : List Nat} (vn : Vals w (Own E st fp) E.w0.heap.size noPl (flat (st.news X)) ncs fn) (dn : fn.Nodup) (mn : ∀ b ∈ fn, ∃ r ∈ St.newsUsed X, (st.heap r).isSome = true ∧ b ∈ fp r)
    (un : ∀ x ∈ st.news X, (cellsOf x).length = sz) (on : ∀ x ∈ flat (st.news X), x.one = true)
    (hlive : ∀ q ∈ St.oldsUsed S ++ St.newsUsed X, (st.heap q).isSome = true) (hnd : (St.oldsUsed S ++ St.newsUsed X).Nodup)
    (hw' : w' = w.setCells b (j * sz + (st.olds S).length * sz) ncs) :
    ∃ pl' fp', RelW E (appS st k sz S X) a w' pl' fp' ∧ Vals w' (Own E (appS st k sz S X) fp') E.w0.heap.size pl' [appV st k S X] [.slice A ((st.olds S).length + (st.news X).length) cap] [] := by
  have hlo := flat_len vo uo
  have hln := flat_len vn un
  obtain ⟨hnd1, hnd2, hnd3⟩ := List.nodup_append.1 hnd
  have hrl : (st.heap r).isSome = true := hlive r (by simp [hu1])
  have hbl : b < w.heap.size := (hR.own r hrl b hbr).1
  let p : Pl := ⟨some b, j, sz, cap⟩
  have hplr : pl (st.nx + k) = none := hR.unused _ hus
  have hdead : st.heap (st.nx + k) = none := by
    cases h : st.heap (st.nx + k) with
    | none => rfl
    | some x => have := hR.used _ (by rw [h]; rfl); rw [hus] at this; cases this
  have hbn : b ∉ fn := by
    intro hb
    obtain ⟨q, hq, hl, hbq⟩ := mn b hb
    have hne : r ≠ q := hnd3 r (by simp [hu1]) q hq
    exact hR.disj r q b hrl hl hne hbr hbq
  have hfd : (b :: (fo ++ fn)).Nodup := by
    obtain ⟨h1, h2⟩ := List.nodup_cons.1 hbf
    rw [List.nodup_cons, List.nodup_append]
    refine ⟨by simp [h1, hbn], h2, dn, fun x hx y hy e => ?_⟩
    subst e
    obtain ⟨q, hq, hl, hxq⟩ := mn x hy
    exact hR.disj r q x hrl hl (hnd3 r (by simp [hu1]) q hq) (hfo x hx) hxq
  have hsame := same_setCells (b := b) ncs (j * sz + (st.olds S).length * sz) w
  have hsz := size_setCells (b := b) ncs (j * sz + (st.olds S).length * sz) w
  have hbnd : (j * sz + (st.olds S).length * sz) + ncs.length ≤ (j + cap) * sz := by
    have h1 : ((st.olds S).length + (st.news X).length) * sz ≤ cap * sz := Nat.mul_le_mul_right _ hroom
    rw [Nat.add_mul] at h1
    rw [Nat.add_mul, hln]
    omega
  have hcells : ∀ i, i < ncs.length → (w.cell? ⟨b, j * sz + (st.olds S).length * sz + i, none⟩).isSome = true := fun i hi => (row_cell hrow _ (by omega)).1
  have hch := hR.change (w' := w') (pl' := plAdd pl (st.nx + k) p) (St.oldsUsed S ++ St.newsUsed X) (st.nx + k) ⟨sz, false, st.olds S ++ st.news X⟩ (b :: (fo ++ fn)) (uupd st.us (st.nx + k))
    (by subst hw'; exact ⟨hsame.1, hsame.2.1, hsame.2.2, by rw [hsz]; exact Nat.le_refl _⟩)
    (fun x hx hq => by
      subst hw'
      exact heap_setCells_other (fun e => by subst e; exact hq r (by simp [hu1]) hbr) _ _ _)
    hlive (fun h => by rw [hdead] at h; cases h) (fun q hq => by simp [plAdd, hq]) (fun x hx => by rw [hplr] at hx; cases hx)
    (fun h => by have := hR.usnb _ h; rw [hus] at this; cases this) (by simp [uupd]) (fun q hq => by simp [uupd, hq])
    (fun x hx => by
      subst hw'
      rw [hsz]
      rcases List.mem_cons.1 hx with rfl | hx
      · exact ⟨hbl, .inr ⟨r, by simp [hu1], hbr⟩⟩
      · rcases List.mem_append.1 hx with hx | hx
        · exact ⟨(hR.own r hrl x (hfo x hx)).1, .inr ⟨r, by simp [hu1], hfo x hx⟩⟩
        · obtain ⟨q, hq, hl, hxq⟩ := mn x hx
          exact ⟨(hR.own q hl x hxq).1, .inr ⟨q, List.mem_append_right _ hq, hxq⟩⟩)
    hfd
    (fun hO => by
      subst hw'
      have hnb : ∀ x, ¬ Own E st fp x → x ≠ b := fun x hx e => hx (.inr ⟨r, hrl, by subst e; exact hbr⟩)
      have mo : Vals (w.setCells b (j * sz + (st.olds S).length * sz) ncs) _ E.w0.heap.size noPl (flat (st.olds S)) ocs fo :=
        vo.move (fun x hx hl => heap_setCells_other (hx.elim (fun h e => by subst e; exact (List.nodup_cons.1 hbf).1 h) (hnb x)) _ _ _) (by rw [hsz]; exact Nat.le_refl _) hO (Nat.le_refl _) _ (fun _ _ h => h)
      have mn' : Vals (w.setCells b (j * sz + (st.olds S).length * sz) ncs) _ E.w0.heap.size noPl (flat (st.news X)) ncs fn :=
        vn.move (fun x hx hl => heap_setCells_other (hx.elim (fun h e => by subst e; exact hbn h) (hnb x)) _ _ _) (by rw [hsz]; exact Nat.le_refl _) hO (Nat.le_refl _) _ (fun _ _ h => h)
      refine .blk (b := b) (j := j) (cap := cap) (cs := ocs ++ ncs) (by simp [plAdd, p]) (rowAt_setCells _ _ _ (vals_oneCell vn on) hrow) (by rw [hsz]; exact hbl) h0 ?_ ?_ (by simpa using hroom) ?_ ?_
      · intro x hx
        rcases List.mem_append.1 hx with hx | hx
        · exact uo x hx
        · exact un x hx
      · intro x hx
        simp only [flat_append] at hx
        rcases List.mem_append.1 hx with hx | hx
        · exact oo x hx
        · exact on x hx
      · simp only [Bool.false_eq_true, if_false, flat_append]
        exact mo.append mn'
      · refine (hao.setCells_off (.inl (by rw [hlo]; exact Nat.le_refl _))).append ?_
        rw [hlo]
        exact At.setCells hcells)
  refine ⟨_, _, hch.1, ?_⟩
  have := Vals.hdr (w := w') (O := Own E (appS st k sz S X) (fpAdd fp (st.nx + k) (b :: (fo ++ fn)))) (B := E.w0.heap.size) (pl := plAdd pl (st.nx + k) p) (r := st.nx + k) (off := 0) (len := (st.olds S).length + (st.news X).length)
    (b := b) (j := j) (sz := sz) (cap := cap) (A := A) (by simp [plAdd, p]) (by omega) (by simpa using hA) .nil
  simpa [appV] using this

theorem zeroCells_one {z : Array Value} (h : ∀ v ∈ z.toList, v.oneCell' = true) (h0 : 0 < z.size) (n : Nat) : ∀ v ∈ (Builtin.zeroCells z n).toList, v.oneCell' = true := by
  intro v hv
  simp only [Builtin.zeroCells, Array.toList_map, List.mem_map] at hv
  obtain ⟨i, _, rfl⟩ := hv
  rw [getElem!_pos z _ (Nat.mod_lt _ h0)]
  exact h _ (by simp)

theorem zszIs_eq {P : Program} {t : TypeId} {n : Nat} (h : zszIs P t n = true) : ∃ i z, P.info? t = some i ∧ i.zero = some z ∧ z.cells.size = n ∧ ∀ v ∈ z.cells.toList, v.oneCell' = true := by
  unfold zszIs at h
  cases hi : P.info? t with
  | none => simp [hi] at h
  | some i =>
    cases hz : i.zero with
    | none => simp [hi, hz] at h
    | some z => simp [hi, hz] at h; exact ⟨i, z, rfl, hz, h.1, fun v hv => by obtain ⟨k, hk, e⟩ := List.getElem_of_mem hv; rw [← e]; exact h.2 k (by simpa using hk)⟩

theorem g_app' {c : Call} {s x : Operand} {s' x' : AOpr} {t u e : TypeId} {sz bytes : Nat} (hR : RelW E st a w pl fp) (ho : o.op = .call c) (hc : c.callee = .builtin .append) (hargs : c.args.toList = [s, x]) (htys : c.argTypes.toList = [t, u])
    (hs : chkX s s' = true) (hx : chkX x x' = true) (he : elemIs E.P t = some e) (hz : szIs E.P e sz = true) (hb : bytesIs E.P e bytes = true) (hzz : zszIs E.P e sz = true) (h0 : 0 < sz) (hu : (∃ e', E.P.underlying u = some (.slice e')) ∨ E.P.underlying u = some .string)
    (os : st.ok s') (ox : st.ok x') (hp : appOk st k sz bytes (st.val s') (st.val x')) (hstr : ∀ q, st.val x' ≠ .str q) :
    ∃ v w' pl' fp', (execOp a.eval o).run E.P w = .ok (.value v) w' ∧ RelW E (appS st k sz (st.val s') (st.val x')) a w' pl' fp' ∧ Vals w' (Own E (appS st k sz (st.val s') (st.val x')) fp') E.w0.heap.size pl' [appV st k (st.val s') (st.val x')] [v] [] := by
  obtain ⟨hus, hn, hol, hnd, hne, hby, hle⟩ := hp
  obtain ⟨hnd1, hnd2, hnd3⟩ := List.nodup_append.1 hnd
  obtain ⟨i, z, hi, hzero, hzs, hz1⟩ := zszIs_eq hzz
  have hisz : i.size = sz := by have := szIs_eq hz; rw [hi] at this; simpa using this
  have hiby : i.bytes = bytes := by simpa [bytesIs, hi] using hb
  obtain ⟨A2, c2, e2, n2⟩ := news_sound hR (opr_sound hR hx ox) hn hnd2 hstr
  obtain ⟨A1, c1, e1, n1, hlv1, hcase⟩ := olds_sound hR (opr_sound hR hs os) hol hnd1
  obtain ⟨cs, hex⟩ := execOp_builtin ho hc a
  have hargs' : c.args.map a.eval = #[a.eval s, a.eval x] := by
    have : c.args = #[s, x] := by apply Array.ext'; simpa using hargs
    rw [this]; simp
  have htys' : c.argTypes = #[t, u] := by apply Array.ext'; simpa using htys
  have hrun : ∀ v w', (Builtin.append_ #[t, u] o.type #[a.eval s, a.eval x]).run E.P w = .ok v w' → (execOp a.eval o).run E.P w = .ok (.value v) w' := by
    intro v w' h
    rw [hex, hargs', htys']
    simp [builtin, h]
  have hlive : ∀ q ∈ St.oldsUsed (st.val s') ++ St.newsUsed (st.val x'), (st.heap q).isSome = true := by
    intro q hq
    rcases List.mem_append.1 hq with hq | hq
    · exact hlv1 q hq
    · generalize st.val x' = X at hn hq
      cases X <;> first | (simp [St.newsUsed] at hq; done) | skip
      rename_i K xs
      cases K <;> first | (simp [St.newsUsed] at hq; done) | skip
      exact usedE_live (fun x hx => (hn x hx).2) q hq
  by_cases hg : c1 < (st.olds (st.val s')).length + (st.news (st.val x')).length
  · -- a new block
    obtain ⟨⟨ocs, fo, vo, do_, mo, ao⟩, uo, oo⟩ := n1
    obtain ⟨⟨ncs, fn, vn, dn, mn, an⟩, un, on⟩ := n2
    have hlo := flat_len vo uo
    have hln := flat_len vn un
    have hr := run_app_grow (P := E.P) (w := w) (t := t) (u := u) (ty := o.type) (e := e) (i := i) (z := z) (elemIs_eq he) hu hi hzero (A := A1) (A2 := A2) (n := (st.olds (st.val s')).length) (c := c1) (m := (st.news (st.val x')).length) (c2 := c2) (olds := ocs) (news := ncs)
      (fun w2 h2 => by rw [hisz]; exact run_firstCells hlo (fun hp => by obtain ⟨b, p, e, h⟩ := ao hp; exact ⟨b, p, e, h.move (by rw [h2])⟩))
      (fun w2 h2 => by rw [hisz]; exact run_firstCells hln (fun hp => by obtain ⟨b, p, e, h⟩ := an hp; exact ⟨b, p, e, h.move (by rw [h2])⟩))
      hg hle (by rw [hiby]; exact hby)
    obtain ⟨pl', fp', h1, h2⟩ := app_grow (k := k) hR hus h0 ⟨⟨ocs, fo, vo, do_, mo, ao⟩, uo, oo⟩ vn dn mn un on hlive hnd (w' := w.drew.alloc (.cells (ocs.toArray ++ ncs.toArray ++ Builtin.zeroCells z.cells (grownCap w ((st.olds (st.val s')).length + (st.news (st.val x')).length) c1 e - ((st.olds (st.val s')).length + (st.news (st.val x')).length))) e))
      (v := .slice (some ⟨w.heap.size, 0, none⟩) ((st.olds (st.val s')).length + (st.news (st.val x')).length) (grownCap w ((st.olds (st.val s')).length + (st.news (st.val x')).length) c1 e))
      (by
        rintro ocs' ⟨ho1, ho2⟩
        have eo : ocs' = ocs := by
          rcases Nat.eq_zero_or_pos (st.olds (st.val s')).length with h | h
          · rw [h, Nat.zero_mul] at ho1 hlo
            rw [List.length_eq_zero_iff.1 ho1, List.length_eq_zero_iff.1 hlo]
          · obtain ⟨b, p, q1, q2⟩ := ao h
            obtain ⟨b', p', q3, q4⟩ := ho2 h
            rw [q1] at q3
            injection q3 with q3
            injection q3 with q5 q6
            subst q5 q6
            apply List.ext_getElem (by omega)
            intro y y1 y2
            have z1 := q2 y _ (List.getElem?_eq_getElem y2)
            have z2 := q4 y _ (List.getElem?_eq_getElem y1)
            rw [z1] at z2
            injection z2 with z2
            exact z2.symm
        subst eo
        refine ⟨_, e, (Builtin.zeroCells z.cells (grownCap w ((st.olds (st.val s')).length + (st.news (st.val x')).length) c1 e - ((st.olds (st.val s')).length + (st.news (st.val x')).length))).toList, grownCap_ge _ _ _ _, ?_, zeroCells_one hz1 (by omega) _, ?_, rfl⟩
        · rw [Array.length_toList, size_zeroCells, hzs]
        · congr 2
          apply Array.ext'
          simp)
    exact ⟨_, _, pl', fp', hrun _ _ (by rw [e1, e2]; exact hr), h1, h2⟩
  · -- room
    rcases hcase with ⟨hc1, hm⟩ | ⟨r, b, j, cap, hu1, hcap, hbr, hrow, hA, hlo', ocs, fo, vo, hbf, hfo, hao⟩
    · have hn0 : (st.news (st.val x')).length = 0 := by omega
      have ho0 : st.olds (st.val s') = [] := hm.resolve_right (by omega)
      have hnn : st.news (st.val x') = [] := List.length_eq_zero_iff.1 hn0
      obtain ⟨pl', fp', h1, h2⟩ := app_empty (k := k) hR hus h0 (A := A1) ho0 hnn hlive
      have hr := run_app_none (P := E.P) (w := w) (t := t) (u := u) (ty := o.type) (e := e) (i := i) (elemIs_eq he) hu hi (A := A1) (A2 := A2) (n := 0) (c := 0) (c2 := c2) (Nat.le_refl _)
      refine ⟨_, _, pl', fp', hrun _ _ ?_, h1, h2⟩
      rw [e1, e2, hc1, ho0, hnn]
      exact hr
    · obtain ⟨⟨ncs, fn, vn, dn, mn, an⟩, un, on⟩ := n2
      have hln := flat_len vn un
      subst hcap
      obtain ⟨pl', fp', h1, h2⟩ := app_room (k := k) (A := A1) hR hus h0 hu1 hbr hrow hA (by omega) vo hbf hfo hao n1.uni n1.one vn dn mn un on hlive hnd rfl
      refine ⟨_, _, pl', fp', hrun _ _ ?_, h1, h2⟩
      rw [e1, e2]
      rcases Nat.eq_zero_or_pos (st.news (st.val x')).length with hm0 | hm0
      · have hnc : ncs = [] := by rw [hm0, Nat.zero_mul] at hln; exact List.length_eq_zero_iff.1 hln
        rw [hm0, hnc]
        exact run_app_none (P := E.P) (w := w) (t := t) (u := u) (ty := o.type) (e := e) (i := i) (elemIs_eq he) hu hi (by omega)
      · have hA' := hA.resolve_right (by omega)
        rw [hA']
        have hbnd : (j * sz + (st.olds (st.val s')).length * sz) + ncs.length ≤ (j + c1) * sz := by
          have h1 : ((st.olds (st.val s')).length + (st.news (st.val x')).length) * sz ≤ c1 * sz := Nat.mul_le_mul_right _ (by omega)
          rw [Nat.add_mul] at h1
          rw [Nat.add_mul, hln]
          omega
        have hr := run_app_room (P := E.P) (w := w) (t := t) (u := u) (ty := o.type) (e := e) (i := i) (elemIs_eq he) hu hi (b := b) (off := j * sz) (A2 := A2) (n := (st.olds (st.val s')).length) (c := c1) (m := (st.news (st.val x')).length) (c2 := c2) (news := ncs)
          (by rw [hisz]; exact run_firstCells hln an) (vals_oneCell vn on) (by omega) (fun y hy => by rw [hisz]; exact (row_cell hrow _ (by omega)).1) (fun y hy => by rw [hisz]; exact (row_cell hrow _ (by omega)).2)
        rw [hisz] at hr
        exact hr

theorem g_apps {c : Call} {s x : Operand} {s' x' : AOpr} {t u e : TypeId} {sz bytes : Nat} (hR : RelW E st a w pl fp) (ho : o.op = .call c) (hc : c.callee = .builtin .append) (hargs : c.args.toList = [s, x]) (htys : c.argTypes.toList = [t, u])
    (hs : chkX s s' = true) (hx : chkX x x' = true) (he : elemIs E.P t = some e) (hz : szIs E.P e sz = true) (hb : bytesIs E.P e bytes = true) (hzz : zszIs E.P e sz = true) (h0 : 0 < sz) (hu : (∃ e', E.P.underlying u = some (.slice e')) ∨ E.P.underlying u = some .string)
    (os : st.ok s') (ox : st.ok x') (hp : appOk st k sz bytes (st.val s') (st.val x')) {q : ByteArray} (hq : st.val x' = .str q) :
    ∃ v w' pl' fp', (execOp a.eval o).run E.P w = .ok (.value v) w' ∧ RelW E (appS st k sz (st.val s') (st.val x')) a w' pl' fp' ∧ Vals w' (Own E (appS st k sz (st.val s') (st.val x')) fp') E.w0.heap.size pl' [appV st k (st.val s') (st.val x')] [v] [] := by
  obtain ⟨hus, hn, hol, hnd, hne, hby, hle⟩ := hp
  obtain ⟨hnd1, hnd2, hnd3⟩ := List.nodup_append.1 hnd
  obtain ⟨i, z, hi, hzero, hzs, hz1⟩ := zszIs_eq hzz
  have hisz : i.size = sz := by have := szIs_eq hz; rw [hi] at this; simpa using this
  have hiby : i.bytes = bytes := by simpa [bytesIs, hi] using hb
  have e2 : a.eval x = .string q := by
    have := opr_sound hR hx ox
    rw [hq] at this
    exact (inv_str this).1
  have hnw : st.news (st.val x') = q.data.toList.map fun b => .int .u8 b.toNat := by rw [hq]; rfl
  have hml : (st.news (st.val x')).length = q.size := by
    rw [hnw, List.length_map]
    obtain ⟨⟨l⟩⟩ := q
    rfl
  have hsz1 : sz = 1 := by
    have h := hn
    rw [hq] at h
    exact h
  have hfl : flat (st.news (st.val x')) = q.data.toList.map fun b => .int .u8 b.toNat := by
    rw [hnw]
    generalize q.data.toList = l
    induction l with
    | nil => rfl
    | cons b l ih => simp only [List.map_cons, flat, List.flatMap_cons, cellsOf] at ih ⊢; rw [ih]; rfl
  have vn : Vals w (Own E st fp) E.w0.heap.size noPl (flat (st.news (st.val x'))) (strCells q) [] := by
    rw [hfl]
    unfold strCells
    generalize q.data.toList = l
    induction l with
    | nil => exact .nil
    | cons b l ih => exact .int ih
  have dn : ([] : List Nat).Nodup := by simp
  have mn : ∀ b ∈ ([] : List Nat), ∃ r ∈ St.newsUsed (st.val x'), (st.heap r).isSome = true ∧ b ∈ fp r := by simp
  have un : ∀ x ∈ st.news (st.val x'), (cellsOf x).length = sz := by
    intro x hx
    rw [hnw] at hx
    obtain ⟨y, _, rfl⟩ := List.mem_map.1 hx
    rw [hsz1]; rfl
  have on : ∀ x ∈ flat (st.news (st.val x')), x.one = true := by
    intro x hx
    rw [hfl] at hx
    obtain ⟨y, _, rfl⟩ := List.mem_map.1 hx
    rfl
  have hln := strCells_len q
  obtain ⟨A1, c1, e1, n1, hlv1, hcase⟩ := olds_sound hR (opr_sound hR hs os) hol hnd1
  obtain ⟨cs, hex⟩ := execOp_builtin ho hc a
  have hargs' : c.args.map a.eval = #[a.eval s, a.eval x] := by
    have : c.args = #[s, x] := by apply Array.ext'; simpa using hargs
    rw [this]; simp
  have htys' : c.argTypes = #[t, u] := by apply Array.ext'; simpa using htys
  have hrun : ∀ v w', (Builtin.append_ #[t, u] o.type #[a.eval s, a.eval x]).run E.P w = .ok v w' → (execOp a.eval o).run E.P w = .ok (.value v) w' := by
    intro v w' h
    rw [hex, hargs', htys']
    simp [builtin, h]
  have hlive : ∀ q ∈ St.oldsUsed (st.val s') ++ St.newsUsed (st.val x'), (st.heap q).isSome = true := by
    intro q hq
    rcases List.mem_append.1 hq with hq | hq
    · exact hlv1 q hq
    · generalize st.val x' = X at hn hq
      cases X <;> first | (simp [St.newsUsed] at hq; done) | skip
      rename_i K xs
      cases K <;> first | (simp [St.newsUsed] at hq; done) | skip
      exact usedE_live (fun x hx => (hn x hx).2) q hq
  by_cases hg : c1 < (st.olds (st.val s')).length + (st.news (st.val x')).length
  · -- a new block
    obtain ⟨⟨ocs, fo, vo, do_, mo, ao⟩, uo, oo⟩ := n1
    have hlo := flat_len vo uo
    rw [hml] at hg hle hby
    have hr := run_apps_grow (P := E.P) (w := w) (t := t) (u := u) (ty := o.type) (e := e) (i := i) (z := z) (elemIs_eq he) hu hi hzero (A := A1) (n := (st.olds (st.val s')).length) (c := c1) (olds := ocs) (s := q)
      (fun w2 h2 => by rw [hisz]; exact run_firstCells hlo (fun hp => by obtain ⟨b, p, e, h⟩ := ao hp; exact ⟨b, p, e, h.move (by rw [h2])⟩))
      hg hle (by rw [hiby]; exact hby)
    obtain ⟨pl', fp', h1, h2⟩ := app_grow (k := k) hR hus h0 ⟨⟨ocs, fo, vo, do_, mo, ao⟩, uo, oo⟩ vn dn mn un on hlive hnd (w' := w.drew.alloc (.cells (ocs.toArray ++ (strCells q).toArray ++ Builtin.zeroCells z.cells (grownCap w ((st.olds (st.val s')).length + q.size) c1 e - ((st.olds (st.val s')).length + q.size))) e))
      (v := .slice (some ⟨w.heap.size, 0, none⟩) ((st.olds (st.val s')).length + q.size) (grownCap w ((st.olds (st.val s')).length + q.size) c1 e))
      (by
        rintro ocs' ⟨ho1, ho2⟩
        have eo : ocs' = ocs := by
          rcases Nat.eq_zero_or_pos (st.olds (st.val s')).length with h | h
          · rw [h, Nat.zero_mul] at ho1 hlo
            rw [List.length_eq_zero_iff.1 ho1, List.length_eq_zero_iff.1 hlo]
          · obtain ⟨b, p, q1, q2⟩ := ao h
            obtain ⟨b', p', q3, q4⟩ := ho2 h
            rw [q1] at q3
            injection q3 with q3
            injection q3 with q5 q6
            subst q5 q6
            apply List.ext_getElem (by omega)
            intro y y1 y2
            have z1 := q2 y _ (List.getElem?_eq_getElem y2)
            have z2 := q4 y _ (List.getElem?_eq_getElem y1)
            rw [z1] at z2
            injection z2 with z2
            exact z2.symm
        subst eo
        rw [hml]
        refine ⟨_, e, (Builtin.zeroCells z.cells (grownCap w ((st.olds (st.val s')).length + q.size) c1 e - ((st.olds (st.val s')).length + q.size))).toList, grownCap_ge _ _ _ _, ?_, zeroCells_one hz1 (by omega) _, ?_, rfl⟩
        · rw [Array.length_toList, size_zeroCells, hzs]
        · congr 2
          apply Array.ext'
          simp)
    exact ⟨_, _, pl', fp', hrun _ _ (by rw [e1, e2]; exact hr), h1, h2⟩
  · -- room
    rcases hcase with ⟨hc1, hm⟩ | ⟨r, b, j, cap, hu1, hcap, hbr, hrow, hA, hlo', ocs, fo, vo, hbf, hfo, hao⟩
    · have hn0 : (st.news (st.val x')).length = 0 := by omega
      have ho0 : st.olds (st.val s') = [] := hm.resolve_right (by omega)
      have hnn : st.news (st.val x') = [] := List.length_eq_zero_iff.1 hn0
      obtain ⟨pl', fp', h1, h2⟩ := app_empty (k := k) hR hus h0 (A := A1) ho0 hnn hlive
      have hr := run_apps_none (P := E.P) (w := w) (t := t) (u := u) (ty := o.type) (e := e) (i := i) (elemIs_eq he) hu hi (A := A1) (n := 0) (c := 0) (s := q) (by omega) (Nat.le_refl _)
      refine ⟨_, _, pl', fp', hrun _ _ ?_, h1, h2⟩
      rw [e1, e2, hc1, ho0]
      exact hr
    · subst hcap
      obtain ⟨pl', fp', h1, h2⟩ := app_room (k := k) (A := A1) hR hus h0 hu1 hbr hrow hA (by omega) vo hbf hfo hao n1.uni n1.one vn dn mn un on hlive hnd rfl
      refine ⟨_, _, pl', fp', hrun _ _ ?_, h1, h2⟩
      rw [e1, e2]
      rcases Nat.eq_zero_or_pos (st.news (st.val x')).length with hm0 | hm0
      · have h0q : q.size = 0 := by omega
        have hs0 : strCells q = [] := List.length_eq_zero_iff.1 (by rw [strCells_len]; exact h0q)
        rw [hm0, hs0]
        exact run_apps_none (P := E.P) (w := w) (t := t) (u := u) (ty := o.type) (e := e) (i := i) (elemIs_eq he) hu hi h0q (by omega)
      · have hA' := hA.resolve_right (by omega)
        rw [hA']
        have hbnd : (j * sz + (st.olds (st.val s')).length * sz) + (strCells q).length ≤ (j + c1) * sz := by
          have h1 : ((st.olds (st.val s')).length + (st.news (st.val x')).length) * sz ≤ c1 * sz := Nat.mul_le_mul_right _ (by omega)
          have hms : (st.news (st.val x')).length * sz = q.size := by rw [hml, hsz1, Nat.mul_one]
          rw [Nat.add_mul, hms] at h1
          rw [Nat.add_mul, hln]
          omega
        have hr := run_apps_room (P := E.P) (w := w) (t := t) (u := u) (ty := o.type) (e := e) (i := i) (elemIs_eq he) hu hi (b := b) (off := j * sz) (n := (st.olds (st.val s')).length) (c := c1) (s := q)
          (by omega) (fun y hy => by rw [hisz]; exact (row_cell hrow _ (by omega)).1) (fun y hy => by rw [hisz]; exact (row_cell hrow _ (by omega)).2)
        rw [hisz] at hr
        rw [hml]
        exact hr

theorem g_app {c : Call} {s x : Operand} {s' x' : AOpr} {t u e : TypeId} {sz bytes : Nat} (hR : RelW E st a w pl fp) (ho : o.op = .call c) (hc : c.callee = .builtin .append) (hargs : c.args.toList = [s, x]) (htys : c.argTypes.toList = [t, u])
    (hs : chkX s s' = true) (hx : chkX x x' = true) (he : elemIs E.P t = some e) (hz : szIs E.P e sz = true) (hb : bytesIs E.P e bytes = true) (hzz : zszIs E.P e sz = true) (h0 : 0 < sz) (hu : (∃ e', E.P.underlying u = some (.slice e')) ∨ E.P.underlying u = some .string)
    (os : st.ok s') (ox : st.ok x') (hp : appOk st k sz bytes (st.val s') (st.val x')) :
    ∃ v w' pl' fp', (execOp a.eval o).run E.P w = .ok (.value v) w' ∧ RelW E (appS st k sz (st.val s') (st.val x')) a w' pl' fp' ∧ Vals w' (Own E (appS st k sz (st.val s') (st.val x')) fp') E.w0.heap.size pl' [appV st k (st.val s') (st.val x')] [v] [] := by
  by_cases h : ∃ q, st.val x' = .str q
  · obtain ⟨q, hq⟩ := h
    exact g_apps hR ho hc hargs htys hs hx he hz hb hzz h0 hu os ox hp hq
  · exact g_app' hR ho hc hargs htys hs hx he hz hb hzz h0 hu os ox hp (fun q hq => h ⟨q, hq⟩)

end
end Go.Amb

set_option linter.unusedSimpArgs false
set_option linter.unusedVariables false
namespace Go.Amb
open Go Go.RowKit

theorem reCells_cells {e : AV} {cs : List AV} (h1 : (∃ ds, e = .agg ds) ∨ ∃ v, cs = [v] ∧ v.one = true) (he : e.one = true ∨ ∃ ds, e = .agg ds) : cellsOf (reCells e cs) = cs := by
  rcases h1 with ⟨ds, rfl⟩ | ⟨v, rfl, hv⟩
  · rfl
  · rcases he with he | ⟨ds, rfl⟩
    · have : reCells e [v] = v := by cases e <;> first | rfl | simp [AV.one] at he
      rw [this]
      cases v <;> first | rfl | simp [AV.one] at hv
    · rfl

section
variable {E : Env} {st : St} {a : Act} {w w' : World} {pl pl' : Pls} {fp : Nat → List Nat} {o : Oper} {k : Nat}

theorem store_core (hR : RelW E st a w pl fp) {r i off : Nat} {blk : Blk} {vs : List AV} {ucs : List Value} {fv used : List Nat} (hb : st.heap r = some blk) (hi : i < blk.es.length)
    (hle : off + vs.length ≤ (cellsOf (elemAt blk.es i)).length) (hv : Vals w (Own E st fp) E.w0.heap.size (if blk.box then pl else noPl) vs ucs fv) (h1 : ∀ c ∈ vs, c.one = true) (hnd : fv.Nodup)
    (hm : ∀ b ∈ fv, ∃ q ∈ used, (st.heap q).isSome = true ∧ b ∈ fp q) (hlive : ∀ q ∈ used, (st.heap q).isSome = true) (hr : r ∉ used) {p : AV} (hp : p = .ptr r i off) {u : Value} (hpv : Vals w (Own E st fp) E.w0.heap.size pl [p] [u] []) :
    ∃ b q, u = .pointer (some ⟨b, q, none⟩) ∧ (∀ j, j < ucs.length → (w.cell? ⟨b, q + j, none⟩).isSome = true ∧ w.frozen? ⟨b, q + j, none⟩ = false) ∧
      ∃ fp', RelW E { st with heap := hupd (hdel st.heap used) r (some { blk with es := blk.es.set i (putAt (elemAt blk.es i) off vs) }) } a (w.setCells b q ucs) pl fp' := by
  subst hp
  rw [elemAt_eq hi] at hle ⊢
  have hlr : (st.heap r).isSome = true := by rw [hb]; rfl
  have hucl := hv.length
  obtain ⟨hz, ⟨j, h, he, -⟩ | ⟨b, j, cap, cs, fp1, h, hrow, hl, hu, ho, hn', hc, ha, hfe⟩⟩ := (hR.roots r blk hb).inv
  · rw [he] at hi; simp at hi
  · cases hpv with
    | @ptr _ _ _ _ b' j' sz' cap' _ _ _ h' t =>
      rw [h] at h'
      injection h' with h'
      injection h' with e1 e2 e3 e4
      injection e1 with e1
      subst e1 e2 e3 e4
      -- the row, in three parts
      have hxi := hu _ (List.getElem_mem hi)
      have hsh : blk.es[i].one = true ∨ ∃ ds, blk.es[i] = .agg ds := elems_shape (O := Own E st fp) (B := 0) ho _ (List.getElem_mem hi)
      have eflat : flat blk.es = (flat (blk.es.take i) ++ (cellsOf blk.es[i]).take off) ++ (((cellsOf blk.es[i]).drop off).take vs.length ++ ((cellsOf blk.es[i]).drop (off + vs.length) ++ flat (blk.es.drop (i + 1)))) := by
        conv => lhs; rw [split_at blk.es i hi]
        rw [flat_append, flat_cons, List.append_assoc]
        congr 1
        rw [← List.append_assoc, ← List.append_assoc]
        congr 1
        rw [List.append_assoc, ← List.drop_drop, List.take_append_drop, List.take_append_drop]
      have eput : cellsOf (putAt blk.es[i] off vs) = (cellsOf blk.es[i]).take off ++ vs ++ (cellsOf blk.es[i]).drop (off + vs.length) := by
        unfold putAt
        refine reCells_cells ?_ hsh
        rcases hsh with hsh | hsh
        · right
          have ec : cellsOf blk.es[i] = [blk.es[i]] := by generalize blk.es[i] = x at hsh; cases x <;> simp_all [cellsOf, AV.one]
          rw [ec] at hle ⊢
          simp at hle
          rcases vs with _ | ⟨v, vs⟩
          · rcases off with _ | off
            · exact ⟨_, by simp, hsh⟩
            · have : off = 0 := by simp at hle; omega
              subst this
              exact ⟨_, by simp, hsh⟩
          · simp at hle
            have h0 : off = 0 := by omega
            have h00 : vs = [] := List.length_eq_zero_iff.1 (by omega)
            subst h0 h00
            exact ⟨v, by simp, h1 v (by simp)⟩
        · exact .inl hsh
      have eset : flat (blk.es.set i (putAt blk.es[i] off vs)) = (flat (blk.es.take i) ++ (cellsOf blk.es[i]).take off) ++ (vs ++ ((cellsOf blk.es[i]).drop (off + vs.length) ++ flat (blk.es.drop (i + 1)))) := by
        rw [List.set_eq_take_append_cons_drop, if_pos hi, flat_append, flat_cons, eput]
        simp only [List.append_assoc]
      rw [eflat] at hc ho
      obtain ⟨c1, c2, f1, f2, rfl, hf12, v1, v2⟩ := hc.unappend
      obtain ⟨c3, c4, f3, f4, rfl, rfl, v3, v4⟩ := v2.unappend
      subst hf12
      have hl1 : c1.length = i * blk.sz + off := by
        rw [v1.length, List.length_append, flat_length (fun x hx => hu x (List.mem_of_mem_take hx)), List.length_take, List.length_take, Nat.min_eq_left (by omega), Nat.min_eq_left (by omega)]
      have hl3 : c3.length = ucs.length := by rw [v3.length, List.length_take, List.length_drop, hucl, Nat.min_eq_left (by omega)]
      have hq : (j + i) * blk.sz + off = j * blk.sz + c1.length := by rw [hl1, Nat.add_mul]; omega
      have hnb := hR.nodup r hlr
      rw [hfe] at hnb
      have hbf : b ∉ f1 ++ (f3 ++ f4) := (List.nodup_cons.1 hnb).1
      have hnf := (List.nodup_cons.1 hnb).2
      have hbr : b ∈ fp r := by rw [hfe]; simp
      have hOb : ∀ x, ¬ Own E st fp x → x ≠ b := fun x hx e => hx (.inr ⟨r, hlr, by subst e; exact hbr⟩)
      have hfr : ∀ x ∈ f1 ++ (f3 ++ f4), x ∈ fp r := fun x hx => by rw [hfe]; exact List.mem_cons_of_mem _ hx
      have hdisj : ∀ x ∈ fv, x ∉ fp r := by
        intro x hx hxr
        obtain ⟨q, hq, hql, hxq⟩ := hm x hx
        exact hR.disj q r x hql hlr (fun e => hr (e ▸ hq)) hxq hxr
      have hcellok : ∀ y, y < ucs.length → (w.cell? ⟨b, (j + i) * blk.sz + off + y, none⟩).isSome = true ∧ w.frozen? ⟨b, (j + i) * blk.sz + off + y, none⟩ = false := by
        intro y hy
        refine row_cell hrow _ ?_
        have h1 : (i + 1) * blk.sz ≤ cap * blk.sz := Nat.mul_le_mul_right _ (by omega)
        rw [Nat.add_mul, Nat.one_mul] at h1
        have h2 : (j + i) * blk.sz = j * blk.sz + i * blk.sz := Nat.add_mul _ _ _
        have h3 : (j + cap) * blk.sz = j * blk.sz + cap * blk.sz := Nat.add_mul _ _ _
        omega
      have hsame := same_setCells (b := b) ucs ((j + i) * blk.sz + off) w
      have hsz := size_setCells (b := b) ucs ((j + i) * blk.sz + off) w
      refine ⟨b, _, rfl, hcellok, ?_⟩
      have hch := hR.change (w' := w.setCells b ((j + i) * blk.sz + off) ucs) (pl' := pl) (r :: used) r { blk with es := blk.es.set i (putAt blk.es[i] off vs) } (b :: (f1 ++ (fv ++ f4))) st.us
        ⟨hsame.1, hsame.2.1, hsame.2.2, by rw [hsz]; exact Nat.le_refl _⟩
        (fun x hx hq => heap_setCells_other (fun e => by subst e; exact hq r (by simp) hbr) _ _ _)
        (fun q hq => by rcases List.mem_cons.1 hq with rfl | hq; exact hlr; exact hlive q hq) (fun _ => by simp) (fun _ _ => rfl) (fun _ h => h) (fun _ => rfl) (hR.used r hlr) (fun _ _ => rfl)
        (fun x hx => by
          rw [hsz]
          rcases List.mem_cons.1 hx with rfl | hx
          · exact ⟨hl, .inr ⟨r, by simp, hbr⟩⟩
          · rcases List.mem_append.1 hx with hx | hx
            · have := hfr x (List.mem_append_left _ hx)
              exact ⟨(hR.own r hlr x this).1, .inr ⟨r, by simp, this⟩⟩
            · rcases List.mem_append.1 hx with hx | hx
              · obtain ⟨q, hq, hql, hxq⟩ := hm x hx
                exact ⟨(hR.own q hql x hxq).1, .inr ⟨q, by simp [hq], hxq⟩⟩
              · have := hfr x (List.mem_append_right _ (List.mem_append_right _ hx))
                exact ⟨(hR.own r hlr x this).1, .inr ⟨r, by simp, this⟩⟩)
        (by
          obtain ⟨n1, n2, n3⟩ := List.nodup_append.1 hnf
          obtain ⟨n4, n5, n6⟩ := List.nodup_append.1 n2
          rw [List.nodup_cons, List.nodup_append]
          refine ⟨?_, n1, ?_, ?_⟩
          · intro hx
            rcases List.mem_append.1 hx with hx | hx
            · exact hbf (List.mem_append_left _ hx)
            · rcases List.mem_append.1 hx with hx | hx
              · exact hdisj b hx hbr
              · exact hbf (List.mem_append_right _ (List.mem_append_right _ hx))
          · rw [List.nodup_append]
            refine ⟨hnd, n5, fun x hx y hy e => ?_⟩
            subst e
            exact hdisj x hx (hfr x (List.mem_append_right _ (List.mem_append_right _ hy)))
          · intro x hx y hy e
            subst e
            rcases List.mem_append.1 hy with hy | hy
            · exact hdisj x hy (hfr x (List.mem_append_left _ hx))
            · exact n3 x hx x (List.mem_append_right _ hy) rfl)
        (fun hO => by
          have mv : ∀ {pl0 : Pls} {ys : List AV} {zs : List Value} {f : List Nat}, Vals w (Own E st fp) E.w0.heap.size pl0 ys zs f → b ∉ f → Vals (w.setCells b ((j + i) * blk.sz + off) ucs) _ E.w0.heap.size pl0 ys zs f :=
            fun hv hbf' => hv.move (fun x hx hl => heap_setCells_other (hx.elim (fun hxf e => hbf' (by rw [← e]; exact hxf)) (hOb x)) _ _ _) (by rw [hsz]; exact Nat.le_refl _) hO (Nat.le_refl _) _ (fun _ _ h => h)
          refine .blk (b := b) (j := j) (cap := cap) (cs := c1 ++ (ucs ++ c4)) h (rowAt_setCells _ _ _ (vals_oneCell hv h1) hrow) (by rw [hsz]; exact hl) hz ?_ ?_ (by simpa using hn') ?_ ?_
          · intro x hx
            rcases List.mem_or_eq_of_mem_set hx with hx | hx
            · exact hu x hx
            · subst hx
              rw [eput]
              simp only [List.length_append, List.length_take, List.length_drop]
              omega
          · intro x hx
            simp only [eset] at hx
            rcases List.mem_append.1 hx with hx | hx
            · exact ho x (List.mem_append_left _ hx)
            · rcases List.mem_append.1 hx with hx | hx
              · exact h1 x hx
              · exact ho x (List.mem_append_right _ (List.mem_append_right _ hx))
          · simp only [eset]
            exact (mv v1 (fun h => hbf (List.mem_append_left _ h))).append ((mv hv (fun h => hdisj b h hbr)).append (mv v4 (fun h => hbf (List.mem_append_right _ (List.mem_append_right _ h)))))
          · have a1 := ha.take
            have a2 := ha.drop
            have a4 := a2.drop
            rw [hq]
            refine (a1.setCells_off (.inl (Nat.le_refl _))).append ?_
            refine (At.setCells (fun y hy => by rw [← hq]; exact (hcellok y hy).1)).append ?_
            rw [hl3] at a4
            exact a4.setCells_off (.inr (Nat.le_refl _)))
      have heq : hupd (hdel st.heap (r :: used)) r (some { blk with es := blk.es.set i (putAt blk.es[i] off vs) }) = hupd (hdel st.heap used) r (some { blk with es := blk.es.set i (putAt blk.es[i] off vs) }) := by
        funext q
        simp only [hupd, hdel]
        by_cases hqr : q = r <;> simp [hqr]
      rw [heq] at hch
      exact ⟨_, hch.1⟩

theorem run_storeVar {P : Program} {t : TypeId} {n b q : Nat} {v : Value} (hz : szIs P t n = true) (hn : v.cells.toList.length = n) (h1 : ∀ u ∈ v.cells.toList, u.oneCell' = true) (w : World)
    (hc : ∀ j, j < n → (w.cell? ⟨b, q + j, none⟩).isSome = true ∧ w.frozen? ⟨b, q + j, none⟩ = false) : (Instr.storeAt t (.pointer (some ⟨b, q, none⟩)) v).run P w = .ok () (w.setCells b q v.cells.toList) := by
  have hst := run_storeCells_cells (P := P) b q v.cells.toList 0 w (fun j hj => by simpa using (hc j (by omega)).1) (fun j hj => by simpa using (hc j (by omega)).2) h1
  simp only [Nat.add_zero] at hst
  have hn' : v.cells.size = n := by simpa using hn
  simp [Instr.storeAt, Instr.sureAddr, storeVar, run_sizeOf' hz, hn', hst]

theorem g_store {t : TypeId} {n : Nat} {ag : Bool} {x y : Operand} {x' y' : AOpr} (hR : RelW E st a w pl fp) (ho : o.op = .store t x y) (hx : chkX x x' = true) (hy : chkX y y' = true) (hz : szIs E.P t n = true) (hg : aggIs E.P t ag = true)
    (ox : st.ok x') (oy : st.ok y') (hp : storeOk st n ag (st.val x') (st.val y')) :
    ∃ w' pl' fp', (execOp a.eval o).run E.P w = .ok .skip w' ∧ RelW E (storeS st (st.val x') (st.val y')) a w' pl' fp' := by
  have vx := opr_sound hR hx ox
  have vy := opr_sound hR hy oy
  revert hp
  generalize hA : st.val x' = A at *
  generalize st.val y' = Y at *
  intro hp
  cases A <;> first | exact hp.elim | skip
  rename_i r i off
  obtain ⟨h1, h2, h3, h4, h5, h6⟩ := hp
  obtain ⟨blk, hb⟩ := Option.isSome_iff_exists.1 h1
  rw [blk_eq hb] at h2 h3 h6
  have hsh : Y.one = true ∨ ∃ cs, Y = .agg cs := by cases Y <;> first | exact .inr ⟨_, rfl⟩ | exact .inl h5.2
  have hcells := cells_of vy hsh
  have hone : ∀ c ∈ cellsOf Y, c.one = true := by
    refine cells_one (hsh.imp id ?_)
    rintro ⟨cs, rfl⟩
    obtain ⟨us, _, _, h⟩ := inv_agg vy
    exact ⟨cs, rfl, h⟩
  have hul := hcells.length
  have hfin : ∀ b q w', a.eval x = .pointer (some ⟨b, q, none⟩) → (∀ j, j < (a.eval y).cells.toList.length → (w.cell? ⟨b, q + j, none⟩).isSome = true ∧ w.frozen? ⟨b, q + j, none⟩ = false) → w' = w.setCells b q (a.eval y).cells.toList →
      (execOp a.eval o).run E.P w = .ok .skip w' := by
    intro b q w' he hc hw
    subst hw
    have := run_storeVar (P := E.P) (t := t) (n := n) (b := b) (q := q) (v := a.eval y) hz (by rw [hul, h4]) (vals_oneCell hcells hone) w (fun j hj => hc j (by rw [hul, h4]; exact hj))
    simp [execOp, ho, he, this]
  cases hbox : blk.box with
  | true =>
    have := store_core (used := []) (fv := []) hR hb h2 (by rw [h4]; exact h3) (by rw [hbox]; exact hcells) hone (by simp) (by simp) (by simp) (by simp) rfl vx
    obtain ⟨b, q, he, hc, fp', hR'⟩ := this
    refine ⟨_, pl, fp', hfin b q _ he hc rfl, ?_⟩
    have hs : storeS st (.ptr r i off) Y = { st with heap := hupd (hdel st.heap []) r (some { blk with es := blk.es.set i (putAt (elemAt blk.es i) off (cellsOf Y)) }) } := by
      simp [storeS, blk_eq hb, hbox, hdel]
    rw [hs]; exact hR'
  | false =>
    rw [hbox] at h6
    simp only [Bool.false_eq_true, if_false] at h6
    obtain ⟨c1, c2, c3⟩ := h6
    have hus : usedE [Y] = (cellsOf Y).flatMap usedV := by simp [usedE, flat]
    rw [hus] at c2 c3
    obtain ⟨f, v, nd, m⟩ := closeL hR _ _ hcells c1 c2
    have hce : cellsOf (closeE st.heap Y) = (cellsOf Y).map (closeV st.heap) := closeE_cells hsh
    have := store_core (used := (cellsOf Y).flatMap usedV) (fv := f) (vs := cellsOf (closeE st.heap Y)) hR hb h2 (by rw [hce, List.length_map, h4]; exact h3) (by rw [hbox, hce]; exact v)
      (by rw [hce]; intro c hc; obtain ⟨d, hd, rfl⟩ := List.mem_map.1 hc; exact closeV_one (c1 d hd)) nd m (by
        have := usedE_live (h := st.heap) (xs := [Y]) (by simpa using c1)
        rwa [hus] at this) c3 rfl vx
    obtain ⟨b, q, he, hc, fp', hR'⟩ := this
    refine ⟨_, pl, fp', hfin b q _ he hc rfl, ?_⟩
    have hs : storeS st (.ptr r i off) Y = { st with heap := hupd (hdel st.heap ((cellsOf Y).flatMap usedV)) r (some { blk with es := blk.es.set i (putAt (elemAt blk.es i) off (cellsOf (closeE st.heap Y))) }) } := by
      simp [storeS, blk_eq hb, hbox, hus]
    rw [hs]; exact hR'
end
end Go.Amb

set_option linter.unusedSimpArgs false
set_option linter.unusedVariables false
namespace Go.Amb
open Go Go.RowKit

section
variable {E : Env} {st : St} {a : Act} {w w' : World} {pl pl' : Pls} {fp : Nat → List Nat} {o : Oper} {k : Nat}

/-- Elements p, p + 1, .. of a row are written. -/
theorem write_core (hR : RelW E st a w pl fp) {r p : Nat} {blk : Blk} {ys : List AV} {ucs : List Value} (hb : st.heap r = some blk) (hbox : blk.box = false) (hle : p + ys.length ≤ blk.es.length) (hpos : 0 < blk.es.length)
    (hv : Vals w (Own E st fp) E.w0.heap.size noPl (flat ys) ucs []) (h1 : ∀ c ∈ flat ys, c.one = true) (hu1 : ∀ y ∈ ys, (cellsOf y).length = blk.sz) :
    ∃ b j cap, pl r = some ⟨some b, j, blk.sz, cap⟩ ∧ blk.es.length ≤ cap ∧ (∀ y, y < ucs.length → (w.cell? ⟨b, (j + p) * blk.sz + y, none⟩).isSome = true ∧ w.frozen? ⟨b, (j + p) * blk.sz + y, none⟩ = false) ∧
      ∃ fp', RelW E { st with heap := hupd st.heap r (some { blk with es := blk.es.take p ++ ys ++ blk.es.drop (p + ys.length) }) } a (w.setCells b ((j + p) * blk.sz) ucs) pl fp' := by
  have hlr : (st.heap r).isSome = true := by rw [hb]; rfl
  have hucl : ucs.length = ys.length * blk.sz := flat_len hv hu1
  obtain ⟨hz, ⟨j, h, he, -⟩ | ⟨b, j, cap, cs, fp1, h, hrow, hl, hu, ho, hn', hc, ha, hfe⟩⟩ := (hR.roots r blk hb).inv
  · rw [he] at hpos; simp at hpos
  · rw [hbox] at hc
    simp only [Bool.false_eq_true, if_false] at hc
    have eflat : flat blk.es = flat (blk.es.take p) ++ (flat ((blk.es.drop p).take ys.length) ++ flat (blk.es.drop (p + ys.length))) := by
      rw [← List.drop_drop, ← flat_append, ← flat_append, List.take_append_drop, List.take_append_drop]
    have eset : flat (blk.es.take p ++ ys ++ blk.es.drop (p + ys.length)) = flat (blk.es.take p) ++ (flat ys ++ flat (blk.es.drop (p + ys.length))) := by
      rw [flat_append, flat_append, List.append_assoc]
    rw [eflat] at hc ho
    obtain ⟨c1, c2, f1, f2, rfl, hf12, v1, v2⟩ := hc.unappend
    obtain ⟨c3, c4, f3, f4, rfl, rfl, v3, v4⟩ := v2.unappend
    subst hf12
    have hl1 : c1.length = p * blk.sz := by
      rw [v1.length, flat_length (fun x hx => hu x (List.mem_of_mem_take hx)), List.length_take, Nat.min_eq_left (by omega)]
    have hl3 : c3.length = ucs.length := by
      rw [v3.length, flat_length (fun x hx => hu x (List.mem_of_mem_drop (List.mem_of_mem_take hx))), List.length_take, List.length_drop, Nat.min_eq_left (by omega), hucl]
    have hq : (j + p) * blk.sz = j * blk.sz + c1.length := by rw [hl1, Nat.add_mul]
    have hnb := hR.nodup r hlr
    rw [hfe] at hnb
    have hbf : b ∉ f1 ++ (f3 ++ f4) := (List.nodup_cons.1 hnb).1
    have hnf := (List.nodup_cons.1 hnb).2
    have hbr : b ∈ fp r := by rw [hfe]; simp
    have hOb : ∀ x, ¬ Own E st fp x → x ≠ b := fun x hx e => hx (.inr ⟨r, hlr, by subst e; exact hbr⟩)
    have hfr : ∀ x ∈ f1 ++ (f3 ++ f4), x ∈ fp r := fun x hx => by rw [hfe]; exact List.mem_cons_of_mem _ hx
    have hcellok : ∀ y, y < ucs.length → (w.cell? ⟨b, (j + p) * blk.sz + y, none⟩).isSome = true ∧ w.frozen? ⟨b, (j + p) * blk.sz + y, none⟩ = false := by
      intro y hy
      refine row_cell hrow _ ?_
      have h1 : (p + ys.length) * blk.sz ≤ cap * blk.sz := Nat.mul_le_mul_right _ (by omega)
      rw [Nat.add_mul] at h1
      have h2 : (j + p) * blk.sz = j * blk.sz + p * blk.sz := Nat.add_mul _ _ _
      have h3 : (j + cap) * blk.sz = j * blk.sz + cap * blk.sz := Nat.add_mul _ _ _
      omega
    have hsame := same_setCells (b := b) ucs ((j + p) * blk.sz) w
    have hsz := size_setCells (b := b) ucs ((j + p) * blk.sz) w
    refine ⟨b, j, cap, h, hn', hcellok, ?_⟩
    have hch := hR.change (w' := w.setCells b ((j + p) * blk.sz) ucs) (pl' := pl) [r] r { blk with es := blk.es.take p ++ ys ++ blk.es.drop (p + ys.length) } (b :: (f1 ++ f4)) st.us
      ⟨hsame.1, hsame.2.1, hsame.2.2, by rw [hsz]; exact Nat.le_refl _⟩
      (fun x hx hq => heap_setCells_other (fun e => by subst e; exact hq r (by simp) hbr) _ _ _)
      (fun q hq => by simp at hq; subst hq; exact hlr) (fun _ => by simp) (fun _ _ => rfl) (fun _ h => h) (fun _ => rfl) (hR.used r hlr) (fun _ _ => rfl)
      (fun x hx => by
        rw [hsz]
        have : x ∈ fp r := by
          rcases List.mem_cons.1 hx with rfl | hx
          · exact hbr
          · rcases List.mem_append.1 hx with hx | hx
            · exact hfr x (List.mem_append_left _ hx)
            · exact hfr x (List.mem_append_right _ (List.mem_append_right _ hx))
        exact ⟨(hR.own r hlr x this).1, .inr ⟨r, by simp, this⟩⟩)
      (by
        obtain ⟨n1, n2, n3⟩ := List.nodup_append.1 hnf
        obtain ⟨n4, n5, n6⟩ := List.nodup_append.1 n2
        rw [List.nodup_cons, List.nodup_append]
        refine ⟨?_, n1, n5, fun x hx y hy e => n3 x hx y (List.mem_append_right _ hy) e⟩
        intro hx
        rcases List.mem_append.1 hx with hx | hx
        · exact hbf (List.mem_append_left _ hx)
        · exact hbf (List.mem_append_right _ (List.mem_append_right _ hx)))
      (fun hO => by
        have mv : ∀ {ys' : List AV} {zs : List Value} {f : List Nat}, Vals w (Own E st fp) E.w0.heap.size noPl ys' zs f → b ∉ f → Vals (w.setCells b ((j + p) * blk.sz) ucs) _ E.w0.heap.size noPl ys' zs f :=
          fun hv hbf' => hv.move (fun x hx hl => heap_setCells_other (hx.elim (fun hxf e => hbf' (by rw [← e]; exact hxf)) (hOb x)) _ _ _) (by rw [hsz]; exact Nat.le_refl _) hO (Nat.le_refl _) _ (fun _ _ h => h)
        refine .blk (b := b) (j := j) (cap := cap) (cs := c1 ++ (ucs ++ c4)) h (rowAt_setCells _ _ _ (vals_oneCell hv h1) hrow) (by rw [hsz]; exact hl) hz ?_ ?_ ?_ ?_ ?_
        · intro x hx
          rcases List.mem_append.1 hx with hx | hx
          · rcases List.mem_append.1 hx with hx | hx
            · exact hu x (List.mem_of_mem_take hx)
            · exact hu1 x hx
          · exact hu x (List.mem_of_mem_drop hx)
        · intro x hx
          simp only [eset] at hx
          rcases List.mem_append.1 hx with hx | hx
          · exact ho x (List.mem_append_left _ hx)
          · rcases List.mem_append.1 hx with hx | hx
            · exact h1 x hx
            · exact ho x (List.mem_append_right _ (List.mem_append_right _ hx))
        · simp only [List.length_append, List.length_take, List.length_drop]; omega
        · show Vals _ _ _ (if blk.box = true then pl else noPl) _ _ _
          rw [if_neg (by simp [hbox])]
          simp only [eset]
          have := (mv v1 (fun h => hbf (List.mem_append_left _ h))).append ((mv hv (by simp)).append (mv v4 (fun h => hbf (List.mem_append_right _ (List.mem_append_right _ h)))))
          simpa using this
        · have a1 := ha.take
          have a2 := ha.drop
          have a4 := a2.drop
          rw [hq]
          refine (a1.setCells_off (.inl (Nat.le_refl _))).append ?_
          refine (At.setCells (fun y hy => by rw [← hq]; exact (hcellok y hy).1)).append ?_
          rw [hl3] at a4
          exact a4.setCells_off (.inr (Nat.le_refl _)))
    have heq : hupd (hdel st.heap [r]) r (some { blk with es := blk.es.take p ++ ys ++ blk.es.drop (p + ys.length) }) = hupd st.heap r (some { blk with es := blk.es.take p ++ ys ++ blk.es.drop (p + ys.length) }) := by
      funext q
      simp only [hupd, hdel]
      by_cases hqr : q = r <;> simp [hqr]
    rw [heq] at hch
    exact ⟨_, hch.1⟩

/-! ### append in its place -/
def intoS (st : St) (S X : AV) : St :=
  match S with
  | .hdr r off n => { st with heap := hupd st.heap r (some { st.blk r with es := (st.blk r).es.take (off + n) ++ st.news X ++ (st.blk r).es.drop (off + n + (st.news X).length) }) }
  | _ => st
def intoV (st : St) (S X : AV) : AV :=
  match S with
  | .hdr r off n => .hdr r off (n + (st.news X).length)
  | _ => .undef
def intoOk (st : St) (sz : Nat) (S X : AV) : Prop :=
  match S with
  | .hdr r off n => (st.heap r).isSome = true ∧ (st.blk r).box = false ∧ (st.blk r).sz = sz ∧ 0 < (st.blk r).es.length ∧ off + n + (st.news X).length ≤ (st.blk r).es.length ∧ st.newsOk sz X ∧ St.newsUsed X = [] ∧ (match X with | .str _ => False | _ => True)
  | _ => False

theorem g_into {c : Call} {s x : Operand} {s' x' : AOpr} {t u e : TypeId} {sz : Nat} (hR : RelW E st a w pl fp) (ho : o.op = .call c) (hc : c.callee = .builtin .append) (hargs : c.args.toList = [s, x]) (htys : c.argTypes.toList = [t, u])
    (hs : chkX s s' = true) (hx : chkX x x' = true) (he : elemIs E.P t = some e) (hz : szIs E.P e sz = true) (hzz : zszIs E.P e sz = true) (hu : (∃ e', E.P.underlying u = some (.slice e')) ∨ E.P.underlying u = some .string)
    (os : st.ok s') (ox : st.ok x') (hp : intoOk st sz (st.val s') (st.val x')) :
    ∃ v w' pl' fp', (execOp a.eval o).run E.P w = .ok (.value v) w' ∧ RelW E (intoS st (st.val s') (st.val x')) a w' pl' fp' ∧ Vals w' (Own E (intoS st (st.val s') (st.val x')) fp') E.w0.heap.size pl' [intoV st (st.val s') (st.val x')] [v] [] := by
  obtain ⟨i, z, hi, hzero, hzs, -⟩ := zszIs_eq hzz
  have hisz : i.size = sz := by have := szIs_eq hz; rw [hi] at this; simpa using this
  have vs := opr_sound hR hs os
  have vx := opr_sound hR hx ox
  obtain ⟨cs, hex⟩ := execOp_builtin ho hc a
  have hargs' : c.args.map a.eval = #[a.eval s, a.eval x] := by
    have : c.args = #[s, x] := by apply Array.ext'; simpa using hargs
    rw [this]; simp
  have htys' : c.argTypes = #[t, u] := by apply Array.ext'; simpa using htys
  have hrun : ∀ v w', (Builtin.append_ #[t, u] o.type #[a.eval s, a.eval x]).run E.P w = .ok v w' → (execOp a.eval o).run E.P w = .ok (.value v) w' := by
    intro v w' h
    rw [hex, hargs', htys']
    simp [builtin, h]
  revert hrun
  revert hp
  revert vs
  generalize st.val s' = S
  generalize a.eval s = sv
  intro vs hp hrun
  cases S with
  | hdr r off n =>
    obtain ⟨h1, h2, h3, h4, h5, h6, h7, h8⟩ := hp
    obtain ⟨blk, hb⟩ := Option.isSome_iff_exists.1 h1
    simp only [intoS, intoV]
    rw [blk_eq hb] at h2 h3 h4 h5 ⊢
    subst h3
    obtain ⟨A2, c2, e2, ⟨⟨ncs, fn, vn, dn, mn, an⟩, un, on⟩⟩ := news_sound hR vx h6 (by rw [h7]; simp) (fun s e => by rw [e] at h8; exact h8)
    have hfn : fn = [] := by
      cases fn with
      | nil => rfl
      | cons b fn => obtain ⟨q, hq, _⟩ := mn b (by simp); rw [h7] at hq; cases hq
    subst hfn
    have hln := flat_len vn un
    obtain ⟨b, j, cap, hpl, hcap, hcell, fp', hR'⟩ := write_core (p := off + n) (ys := st.news (st.val x')) (ucs := ncs) hR hb h2 h5 h4 vn on un
    cases vs with
    | hdre h tt => rw [hpl] at h; cases h
    | @hdr _ _ _ _ b' j' sz' cap' A _ _ _ h hn hA tt =>
      rw [hpl] at h
      injection h with h
      injection h with q1 q2 q3 q4
      injection q1 with q1
      subst q1 q2 q3 q4
      have hbs : (j + (off + n)) * blk.sz = (j + off) * blk.sz + n * blk.sz := by rw [← Nat.add_mul]; congr 1; omega
      by_cases hm : (st.news (st.val x')).length = 0
      · have hnn : st.news (st.val x') = [] := List.length_eq_zero_iff.1 hm
        have hn0 : ncs = [] := by rw [hm] at hln; simpa using hln
        have hr := run_app_none (P := E.P) (w := w) (t := t) (u := u) (ty := o.type) (e := e) (i := i) (elemIs_eq he) hu hi (A := A) (A2 := A2) (n := n) (c := cap - off) (c2 := c2) (by omega)
        refine ⟨_, w, pl, fp', hrun _ _ (by rw [e2, hm]; exact hr), ?_, ?_⟩
        · rw [hn0] at hR'; simpa [World.setCells] using hR'
        · have := Vals.hdr (w := w) (O := Own E { st with heap := hupd st.heap r (some { blk with es := blk.es.take (off + n) ++ st.news (st.val x') ++ blk.es.drop (off + n + (st.news (st.val x')).length) }) } fp') (B := E.w0.heap.size) (pl := pl) (r := r) (off := off) (len := n + (st.news (st.val x')).length) (A := A) hpl (by omega) hA .nil
          rw [hm] at this ⊢
          simpa using this
      · have hA' : A = some ⟨b, (j + off) * blk.sz, none⟩ := hA.resolve_right (by omega)
        subst hA'
        have hr := run_app_room (P := E.P) (w := w) (t := t) (u := u) (ty := o.type) (e := e) (i := i) (elemIs_eq he) hu hi (b := b) (off := (j + off) * blk.sz) (A2 := A2) (n := n) (c := cap - off) (m := (st.news (st.val x')).length) (c2 := c2) (news := ncs)
          (by rw [hisz]; exact run_firstCells hln an) (vals_oneCell vn on) (by omega)
          (fun y hy => by rw [hisz, ← hbs]; exact (hcell y hy).1) (fun y hy => by rw [hisz, ← hbs]; exact (hcell y hy).2)
        rw [hisz, ← hbs] at hr
        refine ⟨_, _, pl, fp', hrun _ _ (by rw [e2]; exact hr), hR', ?_⟩
        have := Vals.hdr (w := w.setCells b ((j + (off + n)) * blk.sz) ncs) (O := Own E { st with heap := hupd st.heap r (some { blk with es := blk.es.take (off + n) ++ st.news (st.val x') ++ blk.es.drop (off + n + (st.news (st.val x')).length) }) } fp') (B := E.w0.heap.size) (pl := pl) (r := r) (off := off) (len := n + (st.news (st.val x')).length)
          (A := some ⟨b, (j + off) * blk.sz, none⟩) hpl (by omega) (.inl rfl) .nil
        simpa using this
  | _ => exact hp.elim

/-! ### clear -/
def zeroE (h : Nat → Option Blk) (ag : Bool) (z : List CV) : AV := closeE h (asVar ag (z.map CV.av))
def clrS (st : St) (ag : Bool) (z : List CV) (S : AV) : St :=
  match S with
  | .hdr r off n => { st with heap := hupd st.heap r (some { st.blk r with es := (st.blk r).es.take off ++ List.replicate n (zeroE st.heap ag z) ++ (st.blk r).es.drop (off + n) }) }
  | _ => st
def clrOk (st : St) (sz : Nat) (ag : Bool) (z : List CV) (S : AV) : Prop :=
  match S with
  | .hdr r off n => (st.heap r).isSome = true ∧ (st.blk r).box = false ∧ (st.blk r).sz = sz ∧ 0 < (st.blk r).es.length ∧ off + n ≤ (st.blk r).es.length ∧ z.length = sz ∧ (ag = false → sz = 1) ∧ ∀ c ∈ z.map CV.av, closeOk st.heap c ∧ usedV c = []
  | _ => False

theorem vals_rep {O : Nat → Prop} {B : Nat} {vs : List AV} {us : List Value} (h : Vals w O B noPl vs us []) : ∀ n, Vals w O B noPl (List.replicate n vs).flatten (List.replicate n us).flatten []
  | 0 => by simpa using Vals.nil
  | n + 1 => by
    rw [List.replicate_succ, List.replicate_succ, List.flatten_cons, List.flatten_cons]
    simpa using h.append (vals_rep h n)

theorem g_clr {c : Call} {x : Operand} {x' : AOpr} {t e : TypeId} {sz : Nat} {ag : Bool} {z : List CV} (hR : RelW E st a w pl fp) (ho : o.op = .call c) (hc : c.callee = .builtin .clear) (hargs : c.args.toList = [x]) (htys : c.argTypes[0]? = some t)
    (hx : chkX x x' = true) (he : elemIs E.P t = some e) (hs : szIs E.P e sz = true) (hz : zeroIs E.P e ag z = true) (h0 : 0 < sz) (ox : st.ok x') (hp : clrOk st sz ag z (st.val x')) :
    ∃ w' fp', (execOp a.eval o).run E.P w = .ok (.value (.tuple #[])) w' ∧ RelW E (clrS st ag z (st.val x')) a w' pl fp' := by
  have vx := opr_sound hR hx ox
  obtain ⟨cs, hex⟩ := execOp_builtin ho hc a
  have hargs' : c.args.map a.eval = #[a.eval x] := by
    have : c.args = #[x] := by apply Array.ext'; simpa using hargs
    rw [this]; simp
  have hrun : ∀ w', (Builtin.clear_ c.argTypes o.type #[a.eval x]).run E.P w = .ok (.tuple #[]) w' → (execOp a.eval o).run E.P w = .ok (.value (.tuple #[])) w' := by
    intro w' h
    rw [hex, hargs']
    simp [builtin, h]
  revert hrun
  revert hp
  revert vx
  generalize st.val x' = S
  generalize a.eval x = xv
  intro vx hp hrun
  cases S with
  | hdr r off n =>
    obtain ⟨h1, h2, h3, h4, h5, hzl, hag, hzc⟩ := hp
    obtain ⟨blk, hb⟩ := Option.isSome_iff_exists.1 h1
    simp only [clrS]
    rw [blk_eq hb] at h2 h3 h4 h5 ⊢
    subst h3
    have hzero : ∃ zv, (zeroValue e).run E.P w = .ok zv w ∧ zv.cells.size = blk.sz ∧ Vals w (Own E st fp) E.w0.heap.size pl (z.map CV.av) zv.cells.toList [] ∧ ∀ c ∈ z.map CV.av, c.one = true := by
      cases ag with
      | true =>
        obtain ⟨i, cs, hi, hzero, hcs⟩ := zeroIs_true hz
        obtain ⟨h1, h2⟩ := chkCs_sound (w := w) (O := Own E st fp) (B := E.w0.heap.size) (pl := pl) _ _ hcs
        exact ⟨.agg cs, by simp [zeroValue, typeInfo, hi, hzero], by have := h1.length; simp at this; simp [Value.cells, this, hzl], by simpa [Value.cells] using h1, h2⟩
      | false =>
        obtain ⟨i, v, hi, hzero, hna, hcs⟩ := zeroIs_false hz
        obtain ⟨h1, h2⟩ := chkCs_sound (w := w) (O := Own E st fp) (B := E.w0.heap.size) (pl := pl) _ _ hcs
        have hvc : v.cells = #[v] := by cases v <;> first | rfl | exact absurd rfl (hna _)
        exact ⟨v, by simp [zeroValue, typeInfo, hi, hzero], by rw [hvc]; simp [hag rfl], by rw [hvc]; simpa using h1, h2⟩
    obtain ⟨zv, hzr, hzs, hzv, hz1⟩ := hzero
    have hze : cellsOf (asVar ag (z.map CV.av)) = z.map CV.av := asVar_cells hz1 (fun h => by simpa [hzl] using hag h)
    have hsh : (asVar ag (z.map CV.av)).one = true ∨ ∃ cs, asVar ag (z.map CV.av) = .agg cs := oneOrAgg (fun c hc => hz1 c (by rwa [hze] at hc))
    have hzE : cellsOf (zeroE st.heap ag z) = (z.map CV.av).map (closeV st.heap) := by
      unfold zeroE
      rw [closeE_cells hsh, hze]
    have hun : (z.map CV.av).flatMap usedV = [] := by
      rw [List.flatMap_eq_nil_iff]
      exact fun c hc => (hzc c hc).2
    obtain ⟨f, v1, nd, m⟩ := closeL hR _ _ hzv (fun c hc => (hzc c hc).1) (by rw [hun]; simp)
    have hf : f = [] := by
      cases f with
      | nil => rfl
      | cons b f => obtain ⟨q, hq, _⟩ := m b (by simp); rw [hun] at hq; cases hq
    subst hf
    have hfl : flat (List.replicate n (zeroE st.heap ag z)) = (List.replicate n ((z.map CV.av).map (closeV st.heap))).flatten := by
      rw [← hzE]
      unfold flat
      rw [List.flatMap_replicate]
    have hvz : Vals w (Own E st fp) E.w0.heap.size noPl (flat (List.replicate n (zeroE st.heap ag z))) (List.replicate n zv.cells.toList).flatten [] := by
      rw [hfl]; exact vals_rep v1 n
    have hone : ∀ c ∈ flat (List.replicate n (zeroE st.heap ag z)), c.one = true := by
      rw [hfl]
      intro c hc
      obtain ⟨l, hl, hcl⟩ := List.mem_flatten.1 hc
      obtain ⟨-, rfl⟩ := List.mem_replicate.1 hl
      obtain ⟨d, hd, rfl⟩ := List.mem_map.1 hcl
      exact closeV_one (hzc d hd).1
    have hlz : ∀ y ∈ List.replicate n (zeroE st.heap ag z), (cellsOf y).length = blk.sz := by
      intro y hy
      obtain ⟨-, rfl⟩ := List.mem_replicate.1 hy
      rw [hzE]; simp [hzl]
    obtain ⟨b, j, cap, hpl, hcap, hcell, fp', hR'⟩ := write_core (p := off) (ys := List.replicate n (zeroE st.heap ag z)) hR hb h2 (by simpa using h5) h4 hvz hone hlz
    rw [List.length_replicate] at hR'
    cases vx with
    | hdre h tt => rw [hpl] at h; cases h
    | @hdr _ _ _ _ b' j' sz' cap' A _ _ _ h hn hA tt =>
      rw [hpl] at h
      injection h with h
      injection h with q1 q2 q3 q4
      injection q1 with q1
      subst q1 q2 q3 q4
      by_cases hm : n = 0
      · subst hm
        refine ⟨w, fp', hrun _ ?_, ?_⟩
        · cases A <;> simp [Builtin.clear_, htys, run_underlying (elemIs_eq he)]
        · simpa [World.setCells] using hR'
      · have hA' : A = some ⟨b, (j + off) * blk.sz, none⟩ := hA.resolve_right (by omega)
        subst hA'
        have hz0 := zero_cells zv.cells blk.sz hzs h0 n
        have hzc' : (Builtin.zeroCells zv.cells n).toList = (List.replicate n zv.cells.toList).flatten := by
          unfold Builtin.zeroCells
          rw [hzs]
          rw [hzs] at hz0
          exact hz0
        have hst := run_storeCells_cells (P := E.P) b ((j + off) * blk.sz) (List.replicate n zv.cells.toList).flatten 0 w (fun y hy => by simpa using (hcell y hy).1) (fun y hy => by simpa using (hcell y hy).2) (vals_oneCell hvz hone)
        simp only [Nat.add_zero] at hst
        refine ⟨_, fp', hrun _ ?_, hR'⟩
        simp [Builtin.clear_, htys, run_underlying (elemIs_eq he), hzr, hzc', hst, hm]
  | _ => exact hp.elim
end
end Go.Amb

set_option linter.unusedSimpArgs false
set_option linter.unusedVariables false
namespace Go.Amb
open Go Go.RowKit

def nilF : Nat → Nat → Nat → AV := fun _ _ _ => .nilp
def noF : Nat → Nat → Nat → Prop := fun _ _ _ => False
mutual
/-- A value as it is told to a function: slices are read-only, headers become what they head, pointers what they point to. -/
def mapA (fh fq : Nat → Nat → Nat → AV) : AV → AV
  | .hdr r o n => fh r o n
  | .ptr r i o => fq r i o
  | .sl .fro xs => .sl .fro xs
  | .sl .fre xs => .sl .fro xs
  | .sl .ext xs => .sl .fro (mapAs fh fq xs)
  | .sl (.own _) xs => .sl .fro (mapAs fh fq xs)
  | .agg cs => .agg (mapAs fh fq cs)
  | .tup cs => .tup (mapAs fh fq cs)
  | .fptr x o => .fptr (mapA fh fq x) o
  | .fn f cs => .fn f (mapAs fh fq cs)
  | .mfn f cs => .mfn f (mapAs fh fq cs)
  | .ifc t v => .ifc t (mapA fh fq v)
  | .grd g v => .grd g (mapA fh fq v)
  | .undef => .undef
  | .int k n => .int k n
  | .bool b => .bool b
  | .str s => .str s
  | .nilp => .nilp
  | .nilf => .nilf
  | .nili => .nili
  | .anyc => .anyc
  | .capv _ _ q => .int .i64 q
def mapAs (fh fq : Nat → Nat → Nat → AV) : List AV → List AV
  | [] => []
  | v :: vs => mapA fh fq v :: mapAs fh fq vs
end
mutual
/-- No header and no pointer but those that it lets by. -/
def okA (oh oq : Nat → Nat → Nat → Prop) : AV → Prop
  | .hdr r o n => oh r o n
  | .ptr r i o => oq r i o
  | .sl .ext xs => okAs oh oq xs
  | .agg cs => okAs oh oq cs
  | .tup cs => okAs oh oq cs
  | .fptr x _ => okA oh oq x
  | .fn _ cs => okAs oh oq cs
  | .mfn _ cs => okAs oh oq cs
  | .ifc _ v => okA oh oq v
  | .grd _ v => okA oh oq v
  | _ => True
def okAs (oh oq : Nat → Nat → Nat → Prop) : List AV → Prop
  | [] => True
  | v :: vs => okA oh oq v ∧ okAs oh oq vs
end

section
variable {fh fq : Nat → Nat → Nat → AV} {oh oq : Nat → Nat → Nat → Prop}
theorem mapAs_eq (xs : List AV) : mapAs fh fq xs = xs.map (mapA fh fq) := by
  induction xs with
  | nil => rfl
  | cons x xs ih => simp [mapAs, ih]
theorem okAs_iff (xs : List AV) : okAs oh oq xs ↔ ∀ x ∈ xs, okA oh oq x := by
  induction xs with
  | nil => simp [okAs]
  | cons x xs ih => simp [okAs, ih]
theorem mapA_one (h1 : ∀ r o n, (fh r o n).one = true) (h2 : ∀ r o n, (fq r o n).one = true) (v : AV) : (mapA fh fq v).one = v.one := by
  cases v with
  | sl k xs => cases k <;> rfl
  | hdr r o n => exact h1 r o n
  | ptr r i o => exact h2 r i o
  | _ => rfl
theorem cellsOf_one {v : AV} (h : v.one = true) : cellsOf v = [v] := by cases v <;> simp_all [cellsOf, AV.one]
theorem mapA_cells (h1 : ∀ r o n, (fh r o n).one = true) (h2 : ∀ r o n, (fq r o n).one = true) (v : AV) : cellsOf (mapA fh fq v) = mapAs fh fq (cellsOf v) := by
  cases v with
  | agg cs => rfl
  | tup cs => rfl
  | grd g v => rfl
  | undef => rfl
  | _ =>
    rw [cellsOf_one (by rw [mapA_one h1 h2]; rfl), cellsOf_one (by rfl)]
    rfl
theorem mapA_flat (h1 : ∀ r o n, (fh r o n).one = true) (h2 : ∀ r o n, (fq r o n).one = true) (xs : List AV) : flat (mapAs fh fq xs) = mapAs fh fq (flat xs) := by
  induction xs with
  | nil => rfl
  | cons x xs ih => rw [mapAs, flat_cons, ih, mapA_cells h1 h2, flat_cons, mapAs_eq, mapAs_eq, mapAs_eq, List.map_append]
theorem okA_cells {v : AV} (h : okA oh oq v) : okAs oh oq (cellsOf v) := by
  cases v with
  | agg cs => exact h
  | _ => exact ⟨h, trivial⟩
theorem okA_flat {xs : List AV} (h : okAs oh oq xs) : okAs oh oq (flat xs) := by
  rw [okAs_iff] at *
  intro x hx
  simp only [flat, List.mem_flatMap] at hx
  obtain ⟨y, hy, hx⟩ := hx
  have := okA_cells (h y hy)
  rw [okAs_iff] at this
  exact this x hx

/-- Told as a list of values: the relation stands, nothing is owned. -/
theorem map_vals {w : World} {O O' : Nat → Prop} {B B' : Nat} {pl0 : Pls} (h1 : ∀ r o n, (fh r o n).one = true) (h2 : ∀ r o n, (fq r o n).one = true)
    (Hh : ∀ r o n u, oh r o n → Vals w O B pl0 [.hdr r o n] [u] [] → Vals w O' B' noPl [fh r o n] [u] [])
    (Hq : ∀ r o n u, oq r o n → Vals w O B pl0 [.ptr r o n] [u] [] → Vals w O' B' noPl [fq r o n] [u] [])
    (hO : ∀ b, b < w.heap.size → ¬ O b → ¬ O' b) {pl : Pls} {vs : List AV} {us : List Value} {fp : List Nat} (h : Vals w O B pl vs us fp) :
    (pl = pl0 ∧ okAs oh oq vs ∨ pl = noPl) → (∀ b ∈ fp, ¬ O' b) → Vals w O' B' noPl (mapAs fh fq vs) us [] := by
  induction h with
  | nil => intros; exact .nil
  | int t ih => intro hp hf; exact .int (ih (hp.imp (fun h => ⟨h.1, h.2.2⟩) id) hf)
  | bool t ih => intro hp hf; exact .bool (ih (hp.imp (fun h => ⟨h.1, h.2.2⟩) id) hf)
  | str t ih => intro hp hf; exact .str (ih (hp.imp (fun h => ⟨h.1, h.2.2⟩) id) hf)
  | nilp t ih => intro hp hf; exact .nilp (ih (hp.imp (fun h => ⟨h.1, h.2.2⟩) id) hf)
  | nilf t ih => intro hp hf; exact .nilf (ih (hp.imp (fun h => ⟨h.1, h.2.2⟩) id) hf)
  | nili t ih => intro hp hf; exact .nili (ih (hp.imp (fun h => ⟨h.1, h.2.2⟩) id) hf)
  | ptr h t ih =>
    intro hp hf
    rcases hp with ⟨rfl, hk⟩ | rfl
    · exact (Hq _ _ _ _ hk.1 (.ptr h .nil)).cons (ih (.inl ⟨rfl, hk.2⟩) hf)
    · cases h
  | fptr hb hl hc ha t ihc ih =>
    intro hp hf
    have hcs := ihc (hp.imp (fun h => ⟨h.1, okA_cells h.2.1⟩) id) (by simp)
    rw [← mapA_cells h1 h2] at hcs
    exact .fptr (hO _ hl hb) hl hcs ha (ih (hp.imp (fun h => ⟨h.1, h.2.2⟩) id) hf)
  | @sle pl k A c vs us fp hk hc t ih =>
    intro hp hf
    have := ih (hp.imp (fun h => ⟨h.1, h.2.2⟩) id) hf
    cases k with
    | own sz => simp [SK.ro] at hk
    | _ => exact .sle rfl (by simp) this
  | slf hk hx hb hl hz hu ho hc ha hn t ihc ih =>
    intro hp hf
    have := ih (hp.imp (fun h => ⟨h.1, h.2.2⟩) id) hf
    have hc' := hc.shift (w' := _) (B' := B') (O' := O') (fun b _ _ => rfl) (Nat.le_refl _) hO noPl (fun _ _ h => h)
    rcases hk with rfl | rfl <;> exact .slf (.inl rfl) hx (hO _ hl hb) hl hz hu ho hc' ha hn this
  | @slx pl xs b p sz cs vs us fp hx hb hl hz hu ho hc ha t ihc ih =>
    intro hp hf
    have hcs := ihc (hp.imp (fun h => ⟨h.1, okA_flat h.2.1⟩) id) (by simp)
    rw [← mapA_flat h1 h2] at hcs
    have hl' : (mapAs fh fq xs).length = xs.length := by simp [mapAs_eq]
    have := Vals.slf (w := w) (O := O') (B := B') (k := .fro) (xs := mapAs fh fq xs) (c := xs.length) (.inl rfl) (by simpa [mapAs_eq] using hx) (hO _ hl hb) hl hz
      (by intro x hx; rw [mapAs_eq, List.mem_map] at hx; obtain ⟨y, hy, rfl⟩ := hx; rw [mapA_cells h1 h2, mapAs_eq, List.length_map]; exact hu y hy)
      (by intro x hx; rw [mapA_flat h1 h2, mapAs_eq, List.mem_map] at hx; obtain ⟨y, hy, rfl⟩ := hx; rw [mapA_one h1 h2]; exact ho y hy)
      hcs ha (by omega) (ih (hp.imp (fun h => ⟨h.1, h.2.2⟩) id) hf)
    rw [hl'] at this
    exact this
  | owe t ih => intro hp hf; exact .sle rfl (by simp) (ih (hp.imp (fun h => ⟨h.1, h.2.2⟩) id) hf)
  | @ow pl sz xs b j cap cs fp1 vs us fp hr hl hz hu ho hn hc ha t ihc ih =>
    intro hp hf
    have ht := ih (hp.imp (fun h => ⟨h.1, h.2.2⟩) id) (fun b hb => hf b (by simp [hb]))
    by_cases hx : xs = []
    · subst hx; exact .sle rfl (by simp) ht
    have hcs := ihc (.inr rfl) (fun b hb => hf b (by simp [hb]))
    rw [← mapA_flat h1 h2] at hcs
    have hl' : (mapAs fh fq xs).length = xs.length := by simp [mapAs_eq]
    have := Vals.slf (w := w) (O := O') (B := B') (k := .fro) (xs := mapAs fh fq xs) (c := cap) (.inl rfl) (by simpa [mapAs_eq] using hx) (hf _ (by simp)) hl hz
      (by intro x hx; rw [mapAs_eq, List.mem_map] at hx; obtain ⟨y, hy, rfl⟩ := hx; rw [mapA_cells h1 h2, mapAs_eq, List.length_map]; exact hu y hy)
      (by intro x hx; rw [mapA_flat h1 h2, mapAs_eq, List.mem_map] at hx; obtain ⟨y, hy, rfl⟩ := hx; rw [mapA_one h1 h2]; exact ho y hy)
      hcs ha (by omega) ht
    rw [hl'] at this
    exact this
  | hdr h hn hA t ih =>
    intro hp hf
    rcases hp with ⟨rfl, hk⟩ | rfl
    · exact (Hh _ _ _ _ hk.1 (.hdr h hn hA .nil)).cons (ih (.inl ⟨rfl, hk.2⟩) hf)
    · cases h
  | hdre h t ih =>
    intro hp hf
    rcases hp with ⟨rfl, hk⟩ | rfl
    · exact (Hh _ _ _ _ hk.1 (.hdre h .nil)).cons (ih (.inl ⟨rfl, hk.2⟩) hf)
    · cases h
  | agg ho hc t ihc ih =>
    intro hp hf
    exact .agg (fp1 := []) (fp := []) (by intro x hx; rw [mapAs_eq, List.mem_map] at hx; obtain ⟨y, hy, rfl⟩ := hx; rw [mapA_one h1 h2]; exact ho y hy)
      (ihc (hp.imp (fun h => ⟨h.1, h.2.1⟩) id) (fun b hb => hf b (by simp [hb]))) (ih (hp.imp (fun h => ⟨h.1, h.2.2⟩) id) (fun b hb => hf b (by simp [hb])))
  | tup hc t ihc ih =>
    intro hp hf
    exact .tup (fp1 := []) (fp := []) (ihc (hp.imp (fun h => ⟨h.1, h.2.1⟩) id) (fun b hb => hf b (by simp [hb]))) (ih (hp.imp (fun h => ⟨h.1, h.2.2⟩) id) (fun b hb => hf b (by simp [hb])))
  | fn hc t ihc ih => intro hp hf; exact .fn (ihc (hp.imp (fun h => ⟨h.1, h.2.1⟩) id) (by simp)) (ih (hp.imp (fun h => ⟨h.1, h.2.2⟩) id) hf)
  | mfn hc t ihc ih => intro hp hf; exact .mfn (ihc (hp.imp (fun h => ⟨h.1, h.2.1⟩) id) (by simp)) (ih (hp.imp (fun h => ⟨h.1, h.2.2⟩) id) hf)
  | ifc hc t ihc ih => intro hp hf; exact .ifc (by simpa [mapAs] using ihc (hp.imp (fun h => ⟨h.1, ⟨h.2.1, trivial⟩⟩) id) (by simp)) (ih (hp.imp (fun h => ⟨h.1, h.2.2⟩) id) hf)
  | capv h hq t ih => intro hp hf; exact .int (ih (hp.imp (fun h => ⟨h.1, h.2.2⟩) id) hf)
  | any hu t ih => intro hp hf; exact .any hu (ih (hp.imp (fun h => ⟨h.1, h.2.2⟩) id) hf)
  | grd hc hu t ihc ih => intro hp hf; exact .grd (fun g => by simpa [mapAs] using ihc g (hp.imp (fun h => ⟨h.1, ⟨h.2.1, trivial⟩⟩) id) (by simp)) hu (ih (hp.imp (fun h => ⟨h.1, h.2.2⟩) id) hf)
end

/-- A closed value, frozen. -/
def clC : AV → AV := mapA nilF nilF
def fzB (h : Nat → Option Blk) (r off n : Nat) : AV :=
  match h r with
  | some b => .sl .fro (((b.es.drop off).take n).map clC)
  | none => .nilp
def okB (h : Nat → Option Blk) (r off n : Nat) : Prop :=
  match h r with
  | some b => b.box = false ∧ off + n ≤ b.es.length
  | none => False
def fzQ (h : Nat → Option Blk) (r i o : Nat) : AV :=
  match h r with
  | some b => .fptr (mapA (fzB h) nilF (elemAt b.es i)) o
  | none => .nilp
def okQ (h : Nat → Option Blk) (r i _o : Nat) : Prop :=
  match h r with
  | some b => b.box = true ∧ i < b.es.length ∧ okA (okB h) noF (elemAt b.es i)
  | none => False
/-- An argument, frozen. -/
def fzA (h : Nat → Option Blk) : AV → AV := mapA (fzB h) (fzQ h)
theorem fzB_one (h : Nat → Option Blk) (r o n : Nat) : (fzB h r o n).one = true := by unfold fzB; split <;> rfl
theorem fzQ_one (h : Nat → Option Blk) (r o n : Nat) : (fzQ h r o n).one = true := by unfold fzQ; split <;> rfl
theorem nilF_one (r o n : Nat) : (nilF r o n).one = true := rfl

section
variable {E : Env} {st : St} {a : Act} {w : World} {pl : Pls} {fp : Nat → List Nat}
def noO : Nat → Prop := fun _ => False

theorem hdr_frozen (hR : RelW E st a w pl fp) (B' : Nat) (r o n : Nat) (u : Value) (hk : okB st.heap r o n) (hv : Vals w (Own E st fp) E.w0.heap.size pl [.hdr r o n] [u] []) :
    Vals w noO B' noPl [fzB st.heap r o n] [u] [] := by
  have hc : closeOk st.heap (.hdr r o n) := hk
  obtain ⟨f, h1, _, _⟩ := close1 hR hv hc
  have h2 := map_vals (fh := nilF) (fq := nilF) (oh := noF) (oq := noF) (pl0 := noPl) (O' := noO) (B' := B') nilF_one nilF_one (fun _ _ _ _ h => h.elim) (fun _ _ _ _ h => h.elim) (fun _ _ _ h => h) h1 (.inr rfl) (fun _ _ h => h)
  unfold okB at hk
  unfold fzB
  cases hb : st.heap r with
  | none => rw [hb] at hk; exact hk.elim
  | some b =>
    simp only [closeV, hb, mapAs, mapA] at h2
    simpa [mapAs_eq, clC] using h2

theorem ptr_frozen (hR : RelW E st a w pl fp) (B' : Nat) (r i o : Nat) (u : Value) (hk : okQ st.heap r i o) (hv : Vals w (Own E st fp) E.w0.heap.size pl [.ptr r i o] [u] []) :
    Vals w noO B' noPl [fzQ st.heap r i o] [u] [] := by
  unfold okQ at hk
  unfold fzQ
  cases hb : st.heap r with
  | none => rw [hb] at hk; exact hk.elim
  | some blk =>
    rw [hb] at hk
    obtain ⟨hbox, hi, hok⟩ := hk
    obtain ⟨hz, ⟨j, h, he, hfe⟩ | ⟨b, j, cap, cs, fp1, h, hr, hl, hu, ho, hn, hcv, ha, hfe⟩⟩ := (hR.roots r blk hb).inv
    · rw [he] at hi; simp at hi
    rw [hbox] at hcv
    simp only [if_true] at hcv
    cases hv with
    | @ptr _ _ _ _ b' j' sz' cap' _ _ _ h' t =>
      rw [h] at h'
      injection h' with h'
      injection h' with e1 e2 e3 e4
      injection e1 with e1
      subst e1 e2 e3 e4
      obtain ⟨ds, g, v1, v2, _⟩ := sub_row hu hcv ha i 1 (by omega)
      have e : (blk.es.drop i).take 1 = [elemAt blk.es i] := by
        rw [List.take_one, List.head?_drop]
        simp [elemAt, List.getElem?_eq_getElem hi]
      rw [e] at v1
      have hfl : flat [elemAt blk.es i] = cellsOf (elemAt blk.es i) := by simp [flat]
      rw [hfl] at v1
      have h2 := map_vals (fh := fzB st.heap) (fq := nilF) (oh := okB st.heap) (oq := noF) (pl0 := pl) (O' := noO) (B' := B') (fzB_one _) nilF_one (fun r o n u hk hv => hdr_frozen hR B' r o n u hk hv) (fun _ _ _ _ h => h.elim)
        (fun _ _ _ h => h) v1 (.inl ⟨rfl, okA_cells hok⟩) (fun _ _ h => h)
      rw [← mapA_cells (fzB_one _) nilF_one] at h2
      rw [Nat.add_mul]
      exact .fptr (fun h => h) hl h2 v2 .nil

/-- Arguments, frozen: the callee reads what the caller owns. -/
theorem args_frozen (hR : RelW E st a w pl fp) (B' : Nat) {vs : List AV} {us : List Value} (hv : Vals w (Own E st fp) E.w0.heap.size pl vs us []) (hok : okAs (okB st.heap) (okQ st.heap) vs) :
    Vals w noO B' noPl (vs.map (fzA st.heap)) us [] := by
  have := map_vals (fh := fzB st.heap) (fq := fzQ st.heap) (O' := noO) (B' := B') (fzB_one _) (fzQ_one _) (fun r o n u hk hv => hdr_frozen hR B' r o n u hk hv) (fun r o n u hk hv => ptr_frozen hR B' r o n u hk hv) (fun _ _ _ h => h) hv (.inl ⟨rfl, hok⟩) (by simp)
  simpa [mapAs_eq, fzA] using this
/-- Arguments that hold nothing of the caller's own. -/
theorem args_apart (hR : RelW E st a w pl fp) (B' : Nat) {vs : List AV} {us : List Value} (hv : Vals w (Own E st fp) E.w0.heap.size pl vs us []) (hok : okAs noF noF vs) :
    Vals w (Own E st fp) B' noPl (vs.map (fzA st.heap)) us [] := by
  have := map_vals (fh := fzB st.heap) (fq := fzQ st.heap) (oh := noF) (oq := noF) (O' := Own E st fp) (B' := B') (fzB_one _) (fzQ_one _) (fun _ _ _ _ h => h.elim) (fun _ _ _ _ h => h.elim) (fun _ _ h => h) hv (.inl ⟨rfl, hok⟩) (by simp)
  simpa [mapAs_eq, fzA] using this
end
end Go.Amb

set_option linter.unusedSimpArgs false
set_option linter.unusedVariables false
namespace Go.Amb
open Go Go.RowKit

/-- The roots behind a call: those that came back, and those that were not handed over. -/
def over (H0 H1 : List (Nat × Blk)) (h : Nat → Option Blk) : Nat → Option Blk := fun q =>
  match mkH H1 q with
  | some b => some b
  | none => if (mkH H0 q).isSome then none else h q
def afterS (st : St) (H0 H1 : List (Nat × Blk)) (N n' : Nat) : St := { st with heap := over H0 H1 st.heap, us := fun q => st.us q || (decide (N ≤ q) && decide (q < n')) }
def Ends (E : Env) (H0 : List (Nat × Blk)) (N : Nat) (Q : List (Nat × Blk) → Nat → AV → Prop) : Ending → World → Prop
  | .returned v, w' => ∃ H1 n' r a' pl' fp', Q H1 n' r ∧ N ≤ n' ∧ (∀ q, (mkH H1 q).isSome = true → (mkH H0 q).isSome = true ∨ N ≤ q) ∧ RelW E (mkS [] H1 n') a' w' pl' fp' ∧
      Vals w' (Own E (mkS [] H1 n') fp') E.w0.heap.size pl' [r] [v] []
  | _, _ => False
/-- Called with these roots (whose numbers lie below N) and arguments, the function ends with those roots and that value, of which Q holds. -/
def BCall (P : Program) (f : Nat) (H0 : List (Nat × Blk)) (N : Nat) (args : List AV) (Q : List (Nat × Blk) → Nat → AV → Prop) : Prop :=
  bodied P f = true ∧ ∀ (E : Env) (a : Act) (pl : Pls) (fp : Nat → List Nat) (us : List Value), E.P = P → E.nb = N → E.pl0 = pl → RelW E (mkS [] H0 N) a E.w0 pl fp →
    Vals E.w0 (Own E (mkS [] H0 N) fp) E.w0.heap.size pl args us [] → Calls P f us.toArray E.w0 (Ends E H0 N Q)

section
variable {E : Env} {st : St} {a : Act} {w w' : World} {pl pl' : Pls} {fp : Nat → List Nat}

theorem RootRel.to {O O' : Nat → Prop} {B B' : Nat} {r : Nat} {blk : Blk} {f : List Nat} (h : RootRel w O B pl r blk f) (hs : ∀ b, (b ∈ f ∨ ¬ O b) → b < w.heap.size → w'.heap[b]? = w.heap[b]?) (hz : w.heap.size ≤ w'.heap.size)
    (hO : ∀ b, b < w.heap.size → ¬ O b → ¬ O' b) (hp : ∀ q p, pl q = some p → pl' q = some p) : RootRel w' O' B' pl' r blk f := by
  cases h with
  | emp h he h0 => exact .emp (hp _ _ h) he h0
  | @blk b j cap cs fp1 h hr hl h0 hu h1 hn hc ha =>
    have hb := hs b (.inl (by simp)) hl
    refine .blk (hp _ _ h) (hr.move hb) (by omega) h0 hu h1 hn ?_ (ha.move hb)
    refine hc.shift (fun x hx hl => hs x (hx.imp (fun h => List.mem_cons_of_mem _ h) id) hl) hz hO _ ?_
    intro q p hq
    split at hq
    · rename_i hb; rw [if_pos hb]; exact hp q p hq
    · cases hq

/-- What the caller lends, and what it has again. -/
theorem share_sound (hR : RelW E st a w pl fp) {H0 : List (Nat × Blk)} {N f : Nat} {args : List AV} {us : List Value} {Q : List (Nat × Blk) → Nat → AV → Prop} (hB : BCall E.P f H0 N args Q) (hv : Vals w (Own E st fp) E.w0.heap.size pl args us [])
    (hH : ∀ q b, mkH H0 q = some b → st.heap q = some b) (hN : ∀ r, st.us r = true → r < N) :
    Calls E.P f us.toArray w (fun e w' => match e with
      | .returned v => ∃ H1 n' r pl' fp', Q H1 n' r ∧ RelW E (afterS st H0 H1 N n') a w' pl' fp' ∧ Vals w' (Own E (afterS st H0 H1 N n') fp') E.w0.heap.size pl' [r] [v] []
      | _ => False) := by
  let Gv : Nat → Prop := fun b => ∃ q, (mkH H0 q).isSome = true ∧ b ∈ fp q
  let Xv : Nat → Prop := fun b => E.X b ∨ ∃ q, (st.heap q).isSome = true ∧ (mkH H0 q).isSome = false ∧ b ∈ fp q
  let E' : Env := ⟨E.P, a.tmps.size, w, Xv, Gv, pl, N⟩
  have hlive : ∀ q, (mkH H0 q).isSome = true → (st.heap q).isSome = true := by
    intro q hq
    cases hm : mkH H0 q with
    | none => rw [hm] at hq; cases hq
    | some b => rw [hH q b hm]; rfl
  have hOO : ∀ b, Own E' (mkS [] H0 N) fp b ↔ Own E st fp b := by
    intro b
    constructor
    · rintro ((hx | ⟨q, h1, h2, h3⟩) | ⟨q, h1, h2⟩)
      · exact .inl hx
      · exact .inr ⟨q, h1, h3⟩
      · exact .inr ⟨q, hlive q h1, h2⟩
    · rintro (hx | ⟨q, h1, h2⟩)
      · exact .inl (.inl hx)
      · cases hm : (mkH H0 q).isSome with
        | true => exact .inr ⟨q, hm, h2⟩
        | false => exact .inl (.inr ⟨q, h1, hm, h2⟩)
  have hplN : ∀ q p, pl q = some p → q < N := by
    intro q p hq
    rcases Nat.lt_or_ge q N with h | h
    · exact h
    · have : st.us q = false := by
        cases hu : st.us q with
        | false => rfl
        | true => have := hN q hu; omega
      rw [hR.unused q this] at hq
      cases hq
  have hxs : ∀ b, Xv b → b < w.heap.size := by
    rintro b (hx | ⟨q, h1, _, h3⟩)
    · exact own_lt hR (.inl hx)
    · exact (hR.own q h1 b h3).1
  have hgx : ∀ b, Gv b → b < w.heap.size ∧ ¬ Xv b := by
    rintro b ⟨q, h1, h2⟩
    have hq := hlive q h1
    refine ⟨(hR.own q hq b h2).1, ?_⟩
    rintro (hx | ⟨q', h3, h4, h5⟩)
    · exact (hR.own q hq b h2).2.2 hx
    · exact hR.disj q q' b hq h3 (fun e => by subst e; rw [h1] at h4; cases h4) h2 h5
  have hR' : RelW E' (mkS [] H0 N) a w pl fp :=
    { size := rfl
      defers := hR.defers
      plx := fun q _ => rfl
      unused := fun q hq => by
        cases hp : pl q with
        | none => rfl
        | some p => have := hplN q p hp; simp [mkS] at hq; omega
      used := fun q hq => by simpa [mkS] using hN q (hR.used q (hlive q hq))
      usnb := fun q hq => by simpa [mkS] using hq
      roots := fun q blk hq => (hR.roots q blk (hH q blk hq)).to (fun _ _ _ => rfl) (Nat.le_refl _) (fun b _ hn ho => hn ((hOO b).1 ho)) (fun _ _ h => h)
      nodup := fun q hq => hR.nodup q (hlive q hq)
      own := fun q hq b hb => ⟨(hR.own q (hlive q hq) b hb).1, .inr ⟨q, hq, hb⟩, (hgx b ⟨q, hq, hb⟩).2⟩
      disj := fun q q' b hq hq' => hR.disj q q' b (hlive q hq) (hlive q' hq')
      xold := hxs
      gold := hgx
      tmps := fun d hd => absurd rfl hd
      keeps := ⟨rfl, rfl, rfl, Nat.le_refl _, fun _ _ _ => rfl⟩ }
  refine Calls.mono (hB.2 E' a pl fp us rfl rfl rfl hR' (hv.shift (fun _ _ _ => rfl) (Nat.le_refl _) (fun b _ hn ho => hn ((hOO b).1 ho)) pl (fun _ _ h => h))) fun e w' he => ?_
  cases e with
  | panicked c => exact he.elim
  | outgrown => exact he.elim
  | returned v =>
    obtain ⟨H1, n', r, a', pl', fp', hQ, hn', hk1, hR1, hv1⟩ := he
    have hplx : ∀ q p, pl q = some p → pl' q = some p := fun q p hq => (hR1.plx q (hplN q p hq)).trans hq
    let fq : Nat → List Nat := fun q => if (mkH H1 q).isSome then fp' q else fp q
    have hq1 : ∀ q, (mkH H1 q).isSome = true → fq q = fp' q := fun q hq => by simp only [fq, hq, if_true]
    have hq2 : ∀ q, (mkH H1 q).isSome = false → fq q = fp q := fun q hq => by simp only [fq, hq]; simp
    have hheap1 : ∀ q b, mkH H1 q = some b → (afterS st H0 H1 N n').heap q = some b := by
      intro q b hq; simp only [afterS, over, hq]
    have hheap : ∀ q b, (afterS st H0 H1 N n').heap q = some b → mkH H1 q = some b ∨ ((mkH H1 q).isSome = false ∧ (mkH H0 q).isSome = false ∧ st.heap q = some b) := by
      intro q b hq
      simp only [afterS, over] at hq
      cases hm : mkH H1 q with
      | some b' => rw [hm] at hq; exact .inl hq
      | none =>
        rw [hm] at hq
        simp only at hq
        split at hq
        · cases hq
        · rename_i hh; exact .inr ⟨rfl, by simpa using hh, hq⟩
    have hliv : ∀ q, ((afterS st H0 H1 N n').heap q).isSome = true → ((mkH H1 q).isSome = true ∧ fq q = fp' q) ∨ ((mkH H1 q).isSome = false ∧ (mkH H0 q).isSome = false ∧ (st.heap q).isSome = true ∧ fq q = fp q) := by
      intro q hq
      cases hb : (afterS st H0 H1 N n').heap q with
      | none => rw [hb] at hq; cases hq
      | some b =>
        rcases hheap q b hb with h | ⟨h1, h2, h3⟩
        · exact .inl ⟨by rw [h]; rfl, hq1 q (by rw [h]; rfl)⟩
        · exact .inr ⟨h1, h2, by rw [h3]; rfl, hq2 q h1⟩
    have hown1 : ∀ q b, (mkH H1 q).isSome = true → b ∈ fp' q → b < w'.heap.size ∧ (w.heap.size ≤ b ∨ Gv b) ∧ ¬ Xv b := fun q b hq hb => hR1.own q hq b hb
    have hO2 : ∀ b, Own E (afterS st H0 H1 N n') fq b → Own E' (mkS [] H1 n') fp' b := by
      rintro b (hx | ⟨q, h1, h2⟩)
      · exact .inl (.inl hx)
      · rcases hliv q h1 with ⟨h3, h4⟩ | ⟨h3, h4, h5, h6⟩
        · rw [h4] at h2; exact .inr ⟨q, h3, h2⟩
        · rw [h6] at h2; exact .inl (.inr ⟨q, h5, h4, h2⟩)
    have hO3 : ∀ b, b < w.heap.size → ¬ Own E st fp b → ¬ Own E (afterS st H0 H1 N n') fq b := by
      intro b hb hno ho
      rcases hO2 b ho with hx | ⟨q, h1, h2⟩
      · rcases hx with hx | ⟨q, h1, _, h3⟩
        · exact hno (.inl hx)
        · exact hno (.inr ⟨q, h1, h3⟩)
      · rcases (hown1 q b h1 h2).2.1 with h | ⟨q', h3, h4⟩
        · omega
        · exact hno (.inr ⟨q', hlive q' h3, h4⟩)
    have hkeep : ∀ b, b < w.heap.size → ¬ Gv b → w'.heap[b]? = w.heap[b]? := fun b hb hg => hR1.keeps.block b hb hg
    have hGO : ∀ b, Gv b → Own E st fp b := by rintro b ⟨q, h1, h2⟩; exact .inr ⟨q, hlive q h1, h2⟩
    have hsz : w.heap.size ≤ w'.heap.size := hR1.keeps.size
    refine ⟨H1, n', r, pl', fq, hQ, ?_, hv1.shift (fun _ _ _ => rfl) (Nat.le_refl _) (fun b _ hn ho => hn (hO2 b ho)) pl' (fun _ _ h => h)⟩
    exact
      { size := hR.size
        defers := hR.defers
        plx := fun q hq => by
          have hu : st.us q = true := hR.usnb q hq
          exact (hR1.plx q (hN q hu)).trans (hR.plx q hq)
        unused := fun q hq => by
          simp only [afterS, Bool.or_eq_false_iff, Bool.and_eq_false_iff, decide_eq_false_iff_not] at hq
          rcases Nat.lt_or_ge q N with h | h
          · exact (hR1.plx q h).trans (hR.unused q hq.1)
          · refine hR1.unused q ?_
            have : ¬ q < n' := by
              rcases hq.2 with h' | h'
              · exact absurd h h'
              · exact h'
            simpa [mkS] using this
        used := fun q hq => by
          simp only [afterS, Bool.or_eq_true, Bool.and_eq_true, decide_eq_true_eq]
          rcases hliv q hq with ⟨h1, _⟩ | ⟨_, _, h3, _⟩
          · rcases hk1 q h1 with h | h
            · exact .inl (hR.used q (hlive q h))
            · exact .inr ⟨h, by simpa [mkS] using hR1.used q h1⟩
          · exact .inl (hR.used q h3)
        usnb := fun q hq => by
          simp only [afterS, Bool.or_eq_true]
          exact .inl (hR.usnb q hq)
        roots := fun q blk hq => by
          rcases hheap q blk hq with h | ⟨h1, h2, h3⟩
          · rw [hq1 q (by rw [h]; rfl)]
            exact (hR1.roots q blk h).to (fun _ _ _ => rfl) (Nat.le_refl _) (fun b _ hn ho => hn (hO2 b ho)) (fun _ _ h => h)
          · rw [hq2 q h1]
            have hl3 : (st.heap q).isSome = true := by rw [h3]; rfl
            refine (hR.roots q blk h3).to ?_ hsz hO3 hplx
            rintro b (hb | hb) hbl
            · exact hkeep b hbl (fun hg => (hgx b hg).2 (.inr ⟨q, hl3, h2, hb⟩))
            · exact hkeep b hbl (fun hg => hb (hGO b hg))
        nodup := fun q hq => by
          rcases hliv q hq with ⟨h1, h2⟩ | ⟨_, _, h3, h4⟩
          · rw [h2]; exact hR1.nodup q h1
          · rw [h4]; exact hR.nodup q h3
        own := fun q hq b hb => by
          rcases hliv q hq with ⟨h1, h2⟩ | ⟨_, _, h3, h4⟩
          · rw [h2] at hb
            obtain ⟨h5, h6, h7⟩ := hown1 q b h1 hb
            refine ⟨h5, ?_, fun hx => h7 (.inl hx)⟩
            rcases h6 with h6 | ⟨q', h8, h9⟩
            · exact .inl (Nat.le_trans hR.keeps.size h6)
            · exact (hR.own q' (hlive q' h8) b h9).2.1
          · rw [h4] at hb
            obtain ⟨h5, h6, h7⟩ := hR.own q h3 b hb
            exact ⟨by omega, h6, h7⟩
        disj := fun q q' b hq hq' hne hb hb' => by
          rcases hliv q hq with ⟨h1, h2⟩ | ⟨_, h2, h3, h4⟩ <;> rcases hliv q' hq' with ⟨h1', h2'⟩ | ⟨_, h2', h3', h4'⟩
          · rw [h2] at hb; rw [h2'] at hb'; exact hR1.disj q q' b h1 h1' hne hb hb'
          · rw [h2] at hb; rw [h4'] at hb'; exact (hown1 q b h1 hb).2.2 (.inr ⟨q', h3', h2', hb'⟩)
          · rw [h4] at hb; rw [h2'] at hb'; exact (hown1 q' b h1' hb').2.2 (.inr ⟨q, h3, h2, hb⟩)
          · rw [h4] at hb; rw [h4'] at hb'; exact hR.disj q q' b h3 h3' hne hb hb'
        xold := hR.xold
        gold := hR.gold
        tmps := fun d hd => by
          obtain ⟨u, h1, h2⟩ := hR.tmps d hd
          refine ⟨u, h1, h2.shift ?_ hsz hO3 pl' hplx⟩
          rintro b (hb | hb) hbl
          · cases hb
          · exact hkeep b hbl (fun hg => hb (hGO b hg))
        keeps :=
          ⟨hR1.keeps.os.trans hR.keeps.os, hR1.keeps.tape.trans hR.keeps.tape, hR1.keeps.output.trans hR.keeps.output, Nat.le_trans hR.keeps.size hsz, fun b hb hg => by
            have hbw : b < w.heap.size := Nat.lt_of_lt_of_le hb hR.keeps.size
            refine (hkeep b hbw ?_).trans (hR.keeps.block b hb hg)
            rintro ⟨q, h1, h2⟩
            rcases (hR.own q (hlive q h1) b h2).2.1 with h | h
            · omega
            · exact hg h⟩ }
end
end Go.Amb

set_option linter.unusedSimpArgs false
set_option linter.unusedVariables false
namespace Go.Amb
open Go Go.RowKit

theorem cmp_l1 : Extern.allNextRows.lookup "internal/bytealg.abigen_runtime_cmpstring" = none := by kernel_rfl
theorem cmp_l0 : Extern.allNextRows.lookup "" = none := by kernel_rfl
theorem cmp_l2 : Extern.allGenericRows.lookup "internal/bytealg.abigen_runtime_cmpstring" = none := by kernel_rfl
theorem cmp_l3 : Extern.allTypedRows.lookup "internal/bytealg.abigen_runtime_cmpstring" = none := by kernel_rfl
theorem cmp_l4 : Extern.allRows.lookup "internal/bytealg.abigen_runtime_cmpstring" = some Extern.BytealgCompare.compare := by kernel_rfl

section
variable {E : Env} {st : St} {a : Act} {w w' : World} {pl : Pls} {fp : Nat → List Nat} {o : Oper} {k : Nat}

theorem g_cmps {c : Call} {g : Nat} {x y : Operand} {x' y' : AOpr} (hR : RelW E st a w pl fp) (ho : o.op = .call c) (hc : c.callee = .value (.func g)) (ha : c.args.toList = [x, y])
    (h2 : chkX x x' = true) (h3 : chkX y y' = true) (hb : cmpExt E.P g = true) (hp : pop st k (.cmps x' y')) : Gives E st a w pl fp o (vop st k (.cmps x' y')) := by
  obtain ⟨hx, hy, hm⟩ := hp
  have hvx := opr_sound hR h2 hx
  have hvy := opr_sound hR h3 hy
  simp only [vop]
  revert hm hvx hvy
  generalize st.val x' = X
  generalize st.val y' = Y
  generalize hu : a.eval x = u
  generalize hv : a.eval y = v
  intro hm hvx hvy
  cases X <;> first | exact hm.elim | skip
  rename_i s
  cases Y <;> first | exact hm.elim | skip
  rename_i t
  obtain ⟨rfl, -⟩ := inv_str hvx
  obtain ⟨rfl, -⟩ := inv_str hvy
  refine ⟨.int .i64 (Lib.compareBytes s.data.toList t.data.toList), ?_, .int .nil⟩
  have ha' : c.args = #[x, y] := by apply Array.ext'; simpa using ha
  have he : execOp a.eval o = callFunc g (c.args.map a.eval) := by
    simp only [execOp, ho, resolve, hc, Deferred.ofValue]
    show callFunc g ((#[] ++ c.args.map a.eval) ++ #[]) = _
    simp
  have hargs : c.args.map a.eval = #[.string s, .string t] := by rw [ha']; simp [hu, hv]
  unfold cmpExt at hb
  split at hb
  · rename_i fn hf
    simp only [Bool.and_eq_true, beq_iff_eq] at hb
    obtain ⟨⟨h4, h5⟩, h6⟩ := hb
    have hn : Extern.findNext fn = none := by simp [Extern.findNext, h5, h6, cmp_l1, cmp_l0]
    have hf2 : Extern.find fn = some Extern.BytealgCompare.compare := by simp [Extern.find, h5, cmp_l2, cmp_l3, cmp_l4]
    rw [he, hargs, run_callFunc_extern hf (by rw [h5]; decide) h4 hn hf2, Lib.run_compareString]
    rfl
  · cases hb

theorem bytes_of {O : Nat → Prop} {B : Nat} {pl : Pls} : ∀ {xs : List AV} {cs : List Value}, (∀ v ∈ xs, isU8 v = true) → Vals w O B pl (flat xs) cs [] → ∃ ns : List Int, xs = ns.map (AV.int .u8) ∧ cs = ns.map (Value.int .u8)
  | [], cs, _, hv => by cases hv; exact ⟨[], rfl, rfl⟩
  | x :: xs, cs, h, hv => by
    have h1 := h x (by simp)
    cases x <;> first | (simp [isU8] at h1; done) | skip
    rename_i k n
    have hk : k = .u8 := by cases k <;> simp_all [isU8]
    subst hk
    have hf : flat (AV.int .u8 n :: xs) = AV.int .u8 n :: flat xs := rfl
    rw [hf] at hv
    cases hv with
    | int t =>
      obtain ⟨ns, rfl, rfl⟩ := bytes_of (fun v hv => h v (by simp [hv])) t
      exact ⟨n :: ns, rfl, rfl⟩

theorem push_all : ∀ (ns : List Int) (s : ByteArray), ns.foldl (fun r n => r.push (UInt8.ofNat n.toNat)) s = ⟨s.data ++ (ns.map fun n => UInt8.ofNat n.toNat).toArray⟩
  | [], s => by simp
  | n :: ns, s => by
    rw [List.foldl_cons, push_all ns]
    obtain ⟨⟨l⟩⟩ := s
    simp [ByteArray.push]
theorem nums_bytes (ns : List Int) : ns.foldl (fun r n => r.push (UInt8.ofNat n.toNat)) ByteArray.empty = numsToBytes (ns.map (AV.int .u8)) := by
  rw [push_all]
  simp [numsToBytes, Function.comp_def, intOf']

theorem g_b2s {s t e : TypeId} {x : Operand} {x' : AOpr} (hR : RelW E st a w pl fp) (ho : o.op = .convert s t x) (h2 : chkX x x' = true) (hs : E.P.underlying s = some (.slice e)) (he : E.P.underlying e = some (.int .u8)) (ht : E.P.underlying t = some .string)
    (hp : pop st k (.b2s x')) : Gives E st a w pl fp o (vop st k (.b2s x')) := by
  obtain ⟨hx, hm⟩ := hp
  have hv := opr_sound hR h2 hx
  simp only [vop]
  revert hm hv
  generalize st.val x' = X
  generalize hu : a.eval x = u
  intro hm hv
  have key : ∀ (ys : List AV), (∀ v ∈ ys, isU8 v = true) → st.newsOk 1 X → St.newsUsed X = [] → st.news X = ys → (∀ q, X ≠ .str q) → Gives E st a w pl fp o (.str (numsToBytes ys)) := by
    intro ys h8 hok hus hys hstr
    obtain ⟨A, c, rfl, ⟨⟨ncs, fn, vn, dn, mn, an⟩, un, on⟩⟩ := news_sound hR hv hok (by rw [hus]; simp) hstr
    have hfn : fn = [] := by
      cases fn with
      | nil => rfl
      | cons b fn => obtain ⟨q, hq, _⟩ := mn b (by simp); rw [hus] at hq; cases hq
    subst hfn
    rw [hys] at vn an hu
    obtain ⟨ns, rfl, rfl⟩ := bytes_of h8 vn
    refine ⟨.string (numsToBytes (ns.map (AV.int .u8))), ?_, .str .nil⟩
    have hrun : (Conv.bytesToString (.slice A (ns.map (AV.int .u8)).length c)).run E.P w = .ok (.string (numsToBytes (ns.map (AV.int .u8)))) w := by
      rw [← nums_bytes, List.length_map]
      cases A with
      | none =>
        have h0 : ns = [] := by
          cases ns with
          | nil => rfl
          | cons n ns => obtain ⟨b, p, h, _⟩ := an (by simp); cases h
        subst h0
        simp [Conv.bytesToString]
      | some ad =>
        refine run_bytesToString w ad ns.length c ns ?_
        have := run_loadCells_list (P := E.P) (w := w) ad (ns.map (Value.int .u8)) ?_
        · simpa using this
        · intro j v hj
          have hlt : j < ns.length := by have := (List.getElem?_eq_some_iff.1 hj).1; simpa using this
          obtain ⟨b, p, h, ha⟩ := an (by simpa using Nat.lt_of_le_of_lt (Nat.zero_le _) hlt)
          injection h with h
          subst h
          rw [Addr.add_mid]
          exact ha j v hj
    simp only [execOp, ho, hu, convert, Sem.run_bind, run_underlying hs, run_underlying ht, run_underlying he, Result.andThen_ok]
    rw [hrun]
    rfl
  cases X <;> first | exact hm.elim | skip
  · rename_i K xs
    obtain ⟨h1, h3⟩ := hm
    have hone : ∀ v ∈ xs, (cellsOf v).length = 1 := by
      intro v hv
      have := h3 v hv
      cases v <;> simp_all [isU8, cellsOf]
    cases K with
    | own z => exact h1.elim
    | fro => exact key xs h3 hone rfl rfl (by intro q h; cases h)
    | fre => exact key xs h3 hone rfl rfl (by intro q h; cases h)
    | ext =>
      have hid : ∀ v ∈ xs, closeE st.heap v = v ∧ ∀ c ∈ cellsOf v, closeOk st.heap c ∧ usedV c = [] := by
        intro v hv
        have := h3 v hv
        cases v <;> simp_all [isU8, cellsOf, closeE, closeV, closeOk, usedV]
      refine key xs h3 (fun v hv => ⟨hone v hv, fun c hc => ((hid v hv).2 c hc).1⟩) ?_ ?_ (by intro q h; cases h)
      · show usedE xs = []
        rw [usedE, List.flatMap_eq_nil_iff]
        intro c hc
        obtain ⟨v, hv, hcv⟩ := List.mem_flatMap.1 hc
        exact ((hid v hv).2 c hcv).2
      · show xs.map (closeE st.heap) = xs
        conv => rhs; rw [← List.map_id xs]
        exact List.map_congr_left fun v hv => (hid v hv).1
  · rename_i r off n
    obtain ⟨h1, h3, h4, h5, h6⟩ := hm
    refine key _ h6 ⟨h1, h3, h5, h4, ?_⟩ rfl rfl (by intro q h; cases h)
    intro c hc
    obtain ⟨v, hv, hcv⟩ := List.mem_flatMap.1 hc
    have := h6 v hv
    cases v <;> simp_all [isU8, cellsOf, AV.shr, AV.one]

theorem made_eq (z : Array Value) (n : Nat) (h0 : 0 < z.size) : (madeCells z (n * z.size)).toList = (List.replicate n z.toList).flatten := by
  induction n with
  | zero => simp [madeCells]
  | succ n ih =>
    have hsp : (List.replicate (n + 1) z.toList).flatten = (List.replicate n z.toList).flatten ++ z.toList := by rw [List.replicate_succ']; simp
    rw [hsp]
    apply List.ext_getElem
    · simp [madeCells, Nat.add_mul]
    · intro j h1 h2
      have hj : j < (n + 1) * z.size := by simpa [madeCells] using h1
      have hget : (madeCells z ((n + 1) * z.size)).toList[j] = z[j % z.size]! := by simp [madeCells]
      rw [hget]
      by_cases hlt : j < n * z.size
      · rw [List.getElem_append_left (by simpa using hlt)]
        have h3 : j < (madeCells z (n * z.size)).toList.length := by simpa [madeCells] using hlt
        have h4 : (madeCells z (n * z.size)).toList[j] = z[j % z.size]! := by simp [madeCells]
        rw [← h4]
        simp only [ih]
      · rw [List.getElem_append_right (by simpa using hlt)]
        have hm : j % z.size = j - n * z.size := by
          have h5 : j = (j - n * z.size) + z.size * n := by
            have hmc := Nat.mul_comm n z.size
            omega
          have h6 : j - n * z.size < z.size := by rw [Nat.add_mul] at hj; omega
          conv => lhs; rw [h5]
          rw [Nat.add_mul_mod_self_left, Nat.mod_eq_of_lt h6]
        have h6 : j - n * z.size < z.size := by rw [Nat.add_mul] at hj; omega
        rw [hm, getElem!_pos z _ h6]
        simp [Nat.mul_comm]

theorem flat_rep (n : Nat) (v : AV) : flat (List.replicate n v) = (List.replicate n (cellsOf v)).flatten := by
  induction n with
  | zero => rfl
  | succ n ih =>
    simp only [List.replicate_succ, List.flatten_cons, ← ih]
    rfl
theorem vals_repl {O : Nat → Prop} {B : Nat} {pl : Pls} {vs : List AV} {cs : List Value} (h : Vals w O B pl vs cs []) : ∀ n : Nat, Vals w O B pl (List.replicate n vs).flatten (List.replicate n cs).flatten []
  | 0 => .nil
  | n + 1 => by
    simp only [List.replicate_succ, List.flatten_cons]
    simpa using h.append (vals_repl h n)

theorem g_mks {t e : TypeId} {sz bytes : Nat} {ag : Bool} {z : List CV} {x y : Operand} {x' : AOpr} (hR : RelW E st a w pl fp) (ho : o.op = .makeSlice t x y) (h2 : chkX x x' = true) (h3 : chkX y x' = true) (he : elemIs E.P t = some e)
    (hs : szIs E.P e sz = true) (hby : bytesIs E.P e bytes = true) (hz : zeroIs E.P e ag z = true) (hp : pop st k (.mks sz bytes ag z x')) :
    Makes E st a w o (rop st (.mks sz bytes ag z x')) k (vop st k (.mks sz bytes ag z x')) := by
  obtain ⟨hus, hx, hi, h0, hb, h63, hlen, hpos⟩ := hp
  obtain ⟨kk, i, e1, e2⟩ := inv_isInt (opr_sound hR h2 hx) hi
  obtain ⟨kk', i', e1', e2'⟩ := inv_isInt (opr_sound hR h3 hx) hi
  have hii : kk' = kk ∧ i' = i := by rw [e1] at e1'; injection e1' with h h'; exact ⟨h.symm, h'.symm⟩
  obtain ⟨rfl, rfl⟩ := hii
  simp only [vop, rop]
  rw [e1] at h0 hb h63 ⊢
  simp only [intOf'] at h0 hb h63 ⊢
  -- the zero value's cells
  obtain ⟨ti, zv, hti, hzv, hzc, hzone⟩ : ∃ ti zv, E.P.info? e = some ti ∧ ti.zero = some zv ∧ (∀ (O : Nat → Prop) (B : Nat) (pl : Pls) (w : World), Vals w O B pl (cellsOf (asVar ag (z.map CV.av))) zv.cells.toList []) ∧ (∀ c ∈ cellsOf (asVar ag (z.map CV.av)), c.one = true) ∧ (cellsOf (asVar ag (z.map CV.av))).length = sz := by
    cases ag with
    | true =>
      obtain ⟨ti, cs, hti, hzv, hcs⟩ := zeroIs_true hz
      refine ⟨ti, _, hti, hzv, ?_, ?_, by simpa [asVar, cellsOf] using hlen⟩
      · intro O B pl w
        simpa [asVar, cellsOf, Value.cells] using (chkCs_sound (w := w) (O := O) (B := B) (pl := pl) _ _ hcs).1
      · simpa [asVar, cellsOf] using (chkCs_sound (w := w) (O := fun _ => False) (B := 0) (pl := pl) _ _ hcs).2
    | false =>
      obtain ⟨ti, v, hti, hzv, hna, hcs⟩ := zeroIs_false hz
      have hl := (chkCs_sound (w := w) (O := fun _ => False) (B := 0) (pl := pl) _ _ hcs)
      obtain ⟨c, hc⟩ : ∃ c, z = [c] := List.length_eq_one_iff.1 (by simpa using hl.1.length.symm)
      subst hc
      have hone : c.av.one = true := hl.2 _ (by simp)
      have hcell : cellsOf c.av = [c.av] := by
        generalize c.av = x at hone
        cases x <;> simp_all [cellsOf, AV.one]
      refine ⟨ti, _, hti, hzv, ?_, ?_, by simpa [asVar, hcell] using hlen⟩
      · intro O B pl w
        have := (chkCs_sound (w := w) (O := O) (B := B) (pl := pl) _ _ hcs).1
        have hvc : v.cells = #[v] := by cases v <;> first | rfl | exact absurd rfl (hna _)
        rw [hvc]
        simpa [asVar, hcell] using this
      · simpa [asVar, hcell] using hone
  generalize asVar ag (z.map CV.av) = ev at hzc hzone ⊢
  obtain ⟨hzone, hzl⟩ := hzone
  have hisz : ti.size = sz := by have := szIs_eq hs; rw [hti] at this; simpa using this
  have hiby : ti.bytes = bytes := by simpa [bytesIs, hti] using hby
  have hzs : zv.cells.size = sz := by have := (hzc (fun _ => False) 0 noPl w).length; simpa [hzl] using this
  obtain ⟨n, rfl⟩ : ∃ n : Nat, i' = n := ⟨i'.toNat, by omega⟩
  have hrun := run_make (P := E.P) w t e ti zv (elemIs_eq he) hti hzv kk' kk' (n : Int) (n : Int) h0 (Int.le_refl _) (by rw [hiby, Int.mul_comm]; omega) h63
  simp only [Int.toNat_natCast, hisz] at hrun ⊢
  have hB := below_alloc' w (.cells (madeCells zv.cells (n * sz)) e)
  have hmade : (madeCells zv.cells (n * sz)).toList = (List.replicate n zv.cells.toList).flatten := by
    have := made_eq zv.cells n (by omega)
    rwa [hzs] at this
  let w2 := w.alloc (.cells (madeCells zv.cells (n * sz)) e)
  let p : Pl := ⟨some w.heap.size, 0, sz, n⟩
  have hpl : pl (st.nx + k) = none := hR.unused _ hus
  have hroot : ∀ O' : Nat → Prop, RootRel w2 O' E.w0.heap.size (plAdd pl (st.nx + k) p) (st.nx + k) ⟨sz, false, List.replicate n ev⟩ [w.heap.size] := by
    intro O'
    refine .blk (b := w.heap.size) (j := 0) (cap := n) (cs := (madeCells zv.cells (n * sz)).toList) (by simp [plAdd, p]) (row_new (by simp [size_madeCells]) (fun v hv => by rw [hmade] at hv; obtain ⟨l, hl, hvl⟩ := List.mem_flatten.1 hv; rw [(List.mem_replicate.1 hl).2] at hvl; exact vals_oneCell (hzc (fun _ => False) 0 noPl w) hzone v hvl)) (by rw [alloc_size]; omega) hpos (by intro x hx; rw [(List.mem_replicate.1 hx).2]; exact hzl) ?_ (by simp) ?_ (by simpa using at_new)
    · intro c hc
      rw [flat_rep] at hc
      obtain ⟨l, hl, hcl⟩ := List.mem_flatten.1 hc
      rw [(List.mem_replicate.1 hl).2] at hcl
      exact hzone c hcl
    · rw [hmade, flat_rep]
      exact vals_repl (hzc _ _ _ _) n
  refine ⟨.slice (some ⟨w.heap.size, 0, none⟩) n n, w2, _, _, ?_, hR.root hB hus (blk := ⟨sz, false, List.replicate n ev⟩) (p := p) (f := [w.heap.size]) (by simp [alloc_size, w2]) (by simp) (hroot _), ?_⟩
  · simp only [execOp, ho, e2, e2', Sem.run_bind, hrun]
    rfl
  · have := Vals.hdr (w := w2) (O := Own E (st.make k (some ⟨sz, false, List.replicate n ev⟩)) (fpAdd fp (st.nx + k) [w.heap.size])) (B := E.w0.heap.size) (pl := plAdd pl (st.nx + k) p) (r := st.nx + k) (off := 0) (len := n) (b := w.heap.size) (j := 0) (sz := sz) (cap := n) (A := some ⟨w.heap.size, 0, none⟩) (us := []) (vs := []) (fp := [])
      (by simp [plAdd, p]) (by omega) (.inl (by simp)) .nil
    simpa using this
theorem vals_nums {O : Nat → Prop} {B : Nat} {pl : Pls} (l : List UInt8) : Vals w O B pl (flat (l.map fun b => AV.int .u8 b.toNat)) (l.map fun b => Value.int .u8 b.toNat) [] := by
  induction l with
  | nil => exact .nil
  | cons b l ih => exact Vals.int ih
theorem g_s2b {s t e : TypeId} {x : Operand} {x' : AOpr} (hR : RelW E st a w pl fp) (ho : o.op = .convert s t x) (h2 : chkX x x' = true) (hs : E.P.underlying s = some .string) (ht : E.P.underlying t = some (.slice e)) (he : E.P.underlying e = some (.int .u8))
    (hp : pop st k (.s2b x')) : Makes E st a w o (rop st (.s2b x')) k (vop st k (.s2b x')) := by
  obtain ⟨hx, hm⟩ := hp
  have hv := opr_sound hR h2 hx
  simp only [vop, rop]
  revert hm hv
  generalize st.val x' = X
  generalize hu : a.eval x = u
  intro hm hv
  cases X <;> first | exact hm.elim | skip
  rename_i q
  obtain ⟨rfl, -⟩ := inv_str hv
  show Makes E st a w o none k (.sl .fro (q.data.toList.map fun b => .int .u8 b.toNat))
  obtain ⟨L, hL⟩ : ∃ L : List AV, L = q.data.toList.map (fun b => AV.int .u8 (b.toNat : Int)) := ⟨_, rfl⟩
  rw [← hL]
  obtain ⟨cap, hcap⟩ : ∃ cap, cap = grownCap w q.size 0 e := ⟨_, rfl⟩
  have hcg : q.size ≤ cap := by rw [hcap]; exact grownCap_ge _ _ _ _
  have hrun := run_bytes_of_string (P := E.P) w s t e q hs ht he
  rw [← hcap] at hrun
  have hsz : (bytesRow q cap).size = cap := by
    simp only [bytesRow, Array.size_append, Array.size_map, Array.size_replicate]
    show q.size + (cap - q.size) = cap
    omega
  rw [hsz] at hrun
  obtain ⟨w2, hw2⟩ : ∃ w2, w2 = w.drew.alloc (.cells (bytesRow q cap) e (cap, cap + 1)) := ⟨_, rfl⟩
  have hB : Below w.heap.size w w2 := by rw [hw2]; exact (Below.refl _ _).drew.alloc (Nat.le_refl _) _
  have hnew : w2.heap[w.heap.size]? = some (.cells (bytesRow q cap) e (cap, cap + 1)) := by rw [hw2]; exact heap_alloc_new w.drew _
  have hlt : w.heap.size < w2.heap.size := (Array.getElem?_eq_some_iff.1 hnew).1
  have hlen : L.length = q.size := by rw [hL]; simp
  rw [← hw2] at hrun
  refine ⟨.slice (some ⟨w.heap.size, 0, none⟩) q.size cap, w2, pl, fp, ?_, hR.ext hB, ?_⟩
  · simp only [execOp, ho, hu, Sem.run_bind, hrun]
    rfl
  · show Vals w2 (Own E st fp) E.w0.heap.size pl [.sl .fro L] [.slice (some ⟨w.heap.size, 0, none⟩) q.size cap] []
    by_cases h0 : L = []
    · have hq0 : q.size = 0 := by rw [← hlen, h0]; rfl
      rw [h0, hq0]
      exact .sle rfl (by simp) .nil
    · have := Vals.slf (w := w2) (O := Own E st fp) (B := E.w0.heap.size) (pl := pl) (k := .fro) (xs := L) (b := w.heap.size) (p := 0) (c := cap) (sz := 1) (cs := q.data.toList.map fun b => Value.int .u8 b.toNat) (vs := []) (us := []) (fp := [])
        (.inl rfl) h0 (fun h => Nat.lt_irrefl _ (own_lt hR h)) hlt (by omega)
        (by intro v hv; rw [hL] at hv; obtain ⟨b, _, rfl⟩ := List.mem_map.1 hv; simp [cellsOf])
        (by
          intro c hc
          obtain ⟨v, hv, hcv⟩ := List.mem_flatMap.1 hc
          rw [hL] at hv
          obtain ⟨b, _, rfl⟩ := List.mem_map.1 hv
          simp [cellsOf] at hcv
          subst hcv
          rfl)
        (by rw [hL]; exact vals_nums q.data.toList)
        (by
          intro j v hj
          simp only [World.cell?, hnew]
          have hj2 : j < q.data.size := by have := (List.getElem?_eq_some_iff.1 hj).1; simpa using this
          simp only [List.getElem?_map] at hj
          simp [bytesRow, hj2, Array.getElem?_append]
          rw [if_pos (show j < q.size from hj2)]
          simpa using hj)
        (by rw [hlen]; exact hcg) .nil
      rw [hlen] at this
      exact this
end
end Go.Amb

set_option linter.unusedSimpArgs false
set_option linter.unusedVariables false
namespace Go.Amb
open Go Go.RowKit

section
variable {E : Env} {st : St} {a : Act} {w w' : World} {pl pl' : Pls} {fp : Nat → List Nat} {o : Oper} {k : Nat}

/-! ### copy -/
def cpyN (st : St) (D X : AV) : Nat := Nat.min (st.news X).length (lenOf D)
def cpyS (st : St) (D X : AV) : St :=
  match D with
  | .hdr r off _ => { st with heap := hupd st.heap r (some { st.blk r with es := (st.blk r).es.take off ++ (st.news X).take (cpyN st D X) ++ (st.blk r).es.drop (off + cpyN st D X) }) }
  | _ => st
def cpyOk (st : St) (sz : Nat) (D X : AV) : Prop :=
  match D with
  | .hdr r off n => (st.heap r).isSome = true ∧ (st.blk r).box = false ∧ (st.blk r).sz = sz ∧ 0 < (st.blk r).es.length ∧ off + n ≤ (st.blk r).es.length ∧ st.newsOk sz X ∧ St.newsUsed X = [] ∧ (match X with | .str _ => False | _ => True)
  | _ => False

theorem g_cpy {c : Call} {d x : Operand} {d' x' : AOpr} {t e : TypeId} {sz : Nat} (hR : RelW E st a w pl fp) (ho : o.op = .call c) (hc : c.callee = .builtin .copy) (hargs : c.args.toList = [d, x]) (htys : c.argTypes[0]? = some t)
    (hd : chkX d d' = true) (hx : chkX x x' = true) (he : elemIs E.P t = some e) (hz : szIs E.P e sz = true) (od : st.ok d') (ox : st.ok x') (hp : cpyOk st sz (st.val d') (st.val x')) :
    ∃ w' fp', (execOp a.eval o).run E.P w = .ok (.value (.int .i64 (cpyN st (st.val d') (st.val x')))) w' ∧ RelW E (cpyS st (st.val d') (st.val x')) a w' pl fp' := by
  have vd := opr_sound hR hd od
  have vx := opr_sound hR hx ox
  obtain ⟨cs, hex⟩ := execOp_builtin ho hc a
  have hargs' : c.args.map a.eval = #[a.eval d, a.eval x] := by
    have : c.args = #[d, x] := by apply Array.ext'; simpa using hargs
    rw [this]; simp
  have hrun : ∀ v w', (Builtin.copy_ c.argTypes o.type #[a.eval d, a.eval x]).run E.P w = .ok v w' → (execOp a.eval o).run E.P w = .ok (.value v) w' := by
    intro v w' h
    rw [hex, hargs']
    simp [builtin, h]
  revert hrun
  revert hp
  revert vd
  generalize st.val d' = D
  generalize a.eval d = dv
  intro vd hp hrun
  cases D with
  | hdr r off n =>
    obtain ⟨h1, h2, h3, h4, h5, h6, h7, h8⟩ := hp
    obtain ⟨blk, hb⟩ := Option.isSome_iff_exists.1 h1
    rw [blk_eq hb] at h2 h3 h4 h5
    subst h3
    obtain ⟨A2, c2, e2, ⟨⟨ncs, fn, vn, dn, mn, an⟩, un, on⟩⟩ := news_sound hR vx h6 (by rw [h7]; simp) (fun s e => by rw [e] at h8; exact h8)
    have hfn : fn = [] := by
      cases fn with
      | nil => rfl
      | cons b fn => obtain ⟨q, hq, _⟩ := mn b (by simp); rw [h7] at hq; cases hq
    subst hfn
    obtain ⟨m, hm⟩ : ∃ m, m = cpyN st (.hdr r off n) (st.val x') := ⟨_, rfl⟩
    have hm1 : m ≤ (st.news (st.val x')).length := by rw [hm]; exact Nat.min_le_left _ _
    have hm2 : m ≤ n := by rw [hm]; exact Nat.min_le_right _ _
    simp only [cpyS, ← hm]
    rw [blk_eq hb]
    have hfl : flat (st.news (st.val x')) = flat ((st.news (st.val x')).take m) ++ flat ((st.news (st.val x')).drop m) := by rw [← flat_append, List.take_append_drop]
    rw [hfl] at vn on
    obtain ⟨c1, c3, f1, f3, hcs, hf, v1, v3⟩ := vn.unappend
    obtain ⟨rfl, rfl⟩ : f1 = [] ∧ f3 = [] := by simpa using hf.symm
    have hlt : ((st.news (st.val x')).take m).length = m := by rw [List.length_take, Nat.min_eq_left hm1]
    have hlc : c1.length = m * blk.sz := by
      have := flat_len v1 (fun y hy => un y (List.mem_of_mem_take hy))
      rwa [hlt] at this
    obtain ⟨b, j, cap, hpl, hcap, hcell, fp', hR'⟩ := write_core (p := off) (ys := (st.news (st.val x')).take m) (ucs := c1) hR hb h2 (by rw [hlt]; omega) h4 v1 (fun c hc => on c (List.mem_append_left _ hc)) (fun y hy => un y (List.mem_of_mem_take hy))
    rw [hlt] at hR'
    have hdst : ∃ A cc, dv = .slice A n cc ∧ (0 < m → A = some ⟨b, (j + off) * blk.sz, none⟩) := by
      cases vd with
      | hdre h tt => rw [hpl] at h; cases h
      | @hdr _ _ _ _ b' j' sz' cap' A _ _ _ h hn hA tt =>
        rw [hpl] at h
        injection h with h
        injection h with q1 q2 q3 q4
        injection q1 with q1
        subst q1 q2 q3 q4
        refine ⟨_, _, rfl, fun h0 => hA.resolve_right (by omega)⟩
    obtain ⟨A, cc, rfl, hA⟩ := hdst
    have hf1 : (Builtin.firstCells blk.sz m (.slice A2 (st.news (st.val x')).length c2)).run E.P w = .ok c1.toArray w := run_firstCells hlc (fun h0 => by
      obtain ⟨b2, p2, q1, q2⟩ := an (by omega)
      refine ⟨b2, p2, q1, fun y v hy => q2 y v ?_⟩
      rw [hcs, List.getElem?_append_left (by have := (List.getElem?_eq_some_iff.1 hy).1; exact this)]
      exact hy)
    have hst : (match A with | some ad => storeCells ad c1 | none => pure ()).run E.P w = .ok () (w.setCells b ((j + off) * blk.sz) c1) := by
      rcases Nat.eq_zero_or_pos m with h0 | h0
      · have : c1 = [] := by rw [h0] at hlc; exact List.length_eq_zero_iff.1 (by simpa using hlc)
        subst this
        cases A <;> simp [storeCells, World.setCells]
      · rw [hA h0]
        have := run_storeCells_cells (P := E.P) b ((j + off) * blk.sz) c1 0 w (fun y hy => by simpa using (hcell y hy).1) (fun y hy => by simpa using (hcell y hy).2) (vals_oneCell v1 (fun c hc => on c (List.mem_append_left _ hc)))
        simpa using this
    have hm' : Nat.min (st.news (st.val x')).length n = m := by rw [hm]; rfl
    refine ⟨_, fp', hrun _ _ ?_, hR'⟩
    simp only [Builtin.copy_, htys]
    rw [e2]
    cases A with
    | none =>
      simp only at hst
      simp [run_underlying (elemIs_eq he), Builtin.lenOf, hm', run_sizeOf' hz, hf1, goInt]
      simpa [Sem.run] using hst
    | some ad =>
      simp only at hst
      simp [run_underlying (elemIs_eq he), Builtin.lenOf, hm', run_sizeOf' hz, hf1, goInt, hst]
  | _ => exact hp.elim

/-! ### cap -/
/-- An element of which nothing is known. -/
def slackE (sz : Nat) : AV := if sz = 1 then .anyc else .agg (List.replicate sz .anyc)
theorem slackE_cells {sz : Nat} : cellsOf (slackE sz) = List.replicate sz .anyc := by
  unfold slackE
  split
  · rename_i h; subst h; rfl
  · rfl
theorem flat_slack (sz n : Nat) : flat (List.replicate n (slackE sz)) = List.replicate (n * sz) .anyc := by
  rw [flat_rep, slackE_cells, List.flatten_replicate_replicate]
theorem vals_any {O : Nat → Prop} {B : Nat} {pl : Pls} : ∀ {cs : List Value}, (∀ v ∈ cs, v.oneCell' = true) → Vals w O B pl (List.replicate cs.length .anyc) cs []
  | [], _ => .nil
  | c :: cs, h => .any (h c (by simp)) (vals_any fun v hv => h v (by simp [hv]))
def capS (st : St) (sz : Nat) (D : AV) (c : Nat) : St :=
  match D with
  | .hdr r _ n => { st with heap := hupd st.heap r (some { st.blk r with es := (st.blk r).es ++ List.replicate (c - n) (slackE sz) }) }
  | _ => st
def capV (D : AV) (q : Nat) : AV :=
  match D with
  | .hdr r off _ => .capv r off q
  | _ => .int .i64 q
def capOk (st : St) (sz : Nat) (D : AV) : Prop :=
  match D with
  | .hdr r off n => (st.heap r).isSome = true ∧ (st.blk r).box = false ∧ (st.blk r).sz = sz ∧ off + n = (st.blk r).es.length
  | .sl (.own _) _ => False
  | .sl _ _ => True
  | _ => False
theorem hupd_same {h : Nat → Option Blk} {r : Nat} {x : Option Blk} (e : h r = x) : hupd h r x = h := by
  funext q
  simp only [hupd]
  split
  · rename_i hq; rw [hq, e]
  · rfl

theorem g_cap {c : Call} {d : Operand} {d' : AOpr} {t e : TypeId} {sz : Nat} (hR : RelW E st a w pl fp) (ho : o.op = .call c) (hc : c.callee = .builtin .cap) (hargs : c.args.toList = [d]) (htys : c.argTypes[0]? = some t)
    (hd : chkX d d' = true) (he : elemIs E.P t = some e) (od : st.ok d') (hp : capOk st sz (st.val d')) :
    ∃ (q : Nat) (fp' : Nat → List Nat), lenOf (st.val d') ≤ q ∧ (execOp a.eval o).run E.P w = .ok (.value (.int .i64 q)) w ∧ RelW E (capS st sz (st.val d') q) a w pl fp' ∧ Vals w (Own E (capS st sz (st.val d') q) fp') E.w0.heap.size pl [capV (st.val d') q] [.int .i64 q] [] := by
  have vd := opr_sound hR hd od
  obtain ⟨cs, hex⟩ := execOp_builtin ho hc a
  have hargs' : c.args.map a.eval = #[a.eval d] := by
    have : c.args = #[d] := by apply Array.ext'; simpa using hargs
    rw [this]; simp
  have hrun : ∀ A n q, a.eval d = .slice A n q → (execOp a.eval o).run E.P w = .ok (.value (.int .i64 q)) w := by
    intro A n q h
    rw [hex, hargs', h]
    simp [builtin, Builtin.cap_, htys, run_underlying (elemIs_eq he), goInt]
  revert hrun
  revert hp
  revert vd
  generalize st.val d' = D
  generalize a.eval d = dv
  intro vd hp hrun
  cases D with
  | sl K xs =>
    have : ∃ A n q, dv = .slice A n q ∧ xs.length ≤ q := by
      cases vd with
      | sle hk hc t => cases t; exact ⟨_, _, _, rfl, by simp⟩
      | slf hk hx hb hl hz hu ho hc ha hn t => cases t; exact ⟨_, _, _, rfl, hn⟩
      | slx hx hb hl hz hu ho hc ha t => cases t; exact ⟨_, _, _, rfl, Nat.le_refl _⟩
      | _ => exact hp.elim
    obtain ⟨A, n, q, rfl, hq⟩ := this
    exact ⟨q, fp, hq, hrun _ _ _ rfl, hR, .int .nil⟩
  | hdr r off n =>
    obtain ⟨h1, h2, h3, h4⟩ := hp
    obtain ⟨blk, hb⟩ := Option.isSome_iff_exists.1 h1
    have hlr : (st.heap r).isSome = true := h1
    simp only [capS, capV]
    rw [blk_eq hb] at h2 h3 h4 ⊢
    subst h3
    obtain ⟨hz, ⟨j, h, hes, -⟩ | ⟨b, j, cap, cs, fp1, h, hrow, hl, hu, ho1, hn', hcv, ha, hfe⟩⟩ := (hR.roots r blk hb).inv
    · -- nil
      have hn0 : n = 0 := by rw [hes] at h4; simp at h4; omega
      cases vd with
      | hdr h' hn hA tt => rw [h] at h'; cases h'
      | hdre h' tt =>
        cases tt
        refine ⟨0, fp, by simp [lenOf], hrun _ _ _ rfl, ?_, .capv h (by simp) .nil⟩
        have : hupd st.heap r (some { blk with es := blk.es ++ List.replicate (0 - 0) (slackE blk.sz) }) = st.heap := hupd_same (by rw [hb]; simp)
        rw [this]
        exact hR
    · cases vd with
      | hdre h' tt => rw [h] at h'; cases h'
      | @hdr _ _ _ _ b' j' sz' cap' A _ _ _ h' hn hA tt =>
        cases tt
        rw [h] at h'
        injection h' with h'
        injection h' with q1 q2 q3 q4
        injection q1 with q1
        subst q1 q2 q3 q4
        suffices hs : ∃ fp', RelW E { st with heap := hupd st.heap r (some { blk with es := blk.es ++ List.replicate (cap - off - n) (slackE blk.sz) }) } a w pl fp' from
          hs.elim fun fp' hs => ⟨cap - off, fp', by simp only [lenOf]; omega, hrun _ _ _ rfl, hs, .capv h rfl .nil⟩
        obtain ⟨m, hm⟩ : ∃ m, m = cap - off - n := ⟨_, rfl⟩
        rw [← hm]
        obtain ⟨cells, ty, fr, hcells, hsize, hfr, hone⟩ := id hrow
        obtain ⟨tail, htail⟩ : ∃ tail, tail = cells.toList.drop ((j + blk.es.length) * blk.sz) := ⟨_, rfl⟩
        have htl : tail.length = m * blk.sz := by
          rw [htail, List.length_drop, Array.length_toList, hsize, ← Nat.sub_mul]
          congr 1; omega
        have htone : ∀ v ∈ tail, v.oneCell' = true := fun v hv => hone v (by rw [htail] at hv; exact List.mem_of_mem_drop hv)
        have hcl : cs.length = blk.es.length * blk.sz := by rw [hcv.length, flat_length hu]
        have hnb := hR.nodup r hlr
        rw [hfe] at hnb
        have hfr' : ∀ x ∈ b :: fp1, x ∈ fp r := fun x hx => by rw [hfe]; exact hx
        have hch := hR.change (w' := w) (pl' := pl) [r] r { blk with es := blk.es ++ List.replicate m (slackE blk.sz) } (b :: fp1) st.us
          ⟨rfl, rfl, rfl, Nat.le_refl _⟩ (fun _ _ _ => rfl) (fun q hq => by simp at hq; subst hq; exact hlr) (fun _ => by simp) (fun _ _ => rfl) (fun _ h => h) (fun _ => rfl) (hR.used r hlr) (fun _ _ => rfl)
          (fun x hx => ⟨(hR.own r hlr x (hfr' x hx)).1, .inr ⟨r, by simp, hfr' x hx⟩⟩) hnb
          (fun hO => by
            refine .blk (b := b) (j := j) (cap := cap) (cs := cs ++ tail) h hrow hl hz ?_ ?_ ?_ ?_ ?_
            · intro x hx
              rcases List.mem_append.1 hx with hx | hx
              · exact hu x hx
              · rw [(List.mem_replicate.1 hx).2, slackE_cells]; simp
            · intro x hx
              simp only [flat_append, flat_slack] at hx
              rcases List.mem_append.1 hx with hx | hx
              · exact ho1 x hx
              · rw [(List.mem_replicate.1 hx).2]; rfl
            · simp only [List.length_append, List.length_replicate]; omega
            · have v1 := hcv.move (w' := w) (fun _ _ _ => rfl) (Nat.le_refl _) hO (Nat.le_refl _) _ (fun _ _ h => h)
              have v2 := vals_any (w := w) (O := Own E { st with heap := hupd (hdel st.heap [r]) r (some { blk with es := blk.es ++ List.replicate m (slackE blk.sz) }), us := st.us } (fpAdd fp r (b :: fp1))) (B := E.w0.heap.size) (pl := if blk.box then pl else noPl) htone
              have := v1.append v2
              rw [htl] at this
              simpa [flat_append, flat_slack] using this
            · refine ha.append ?_
              rw [hcl, ← Nat.add_mul]
              intro y v hy
              rw [htail, List.getElem?_drop] at hy
              simp only [World.cell?, hcells]
              simpa using hy)
        have heq : hupd (hdel st.heap [r]) r (some { blk with es := blk.es ++ List.replicate m (slackE blk.sz) }) = hupd st.heap r (some { blk with es := blk.es ++ List.replicate m (slackE blk.sz) }) := by
          funext q
          simp only [hupd, hdel]
          by_cases hqr : q = r <;> simp [hqr]
        rw [heq] at hch
        exact ⟨_, hch.1⟩
  | _ => exact hp.elim

/-! ### append of zeros, where there is no room -/
/-- What of a root is appended to. -/
def partOf (st : St) : AV → List AV
  | .hdr r off n => ((st.blk r).es.drop off).take n
  | _ => []
def apzX (st : St) (ag : Bool) (z : List CV) (S X : AV) : AV := .sl .fro (partOf st S ++ List.replicate (intOf' X).toNat (zeroE st.heap ag z))
def apzOk (st : St) (k sz bytes : Nat) (ag : Bool) (z : List CV) (S X C : AV) : Prop :=
  match S with
  | .hdr r off n => st.us (st.nx + k) = false ∧ st.newsOk sz (.hdr r off n) ∧ isInt X = true ∧ 0 ≤ intOf' X ∧ (n + (intOf' X).toNat) * bytes ≤ 140737488355328 ∧ n + (intOf' X).toNat ≤ 9223372036854775807 ∧
      (match C with | .capv r' off' q => r' = r ∧ off' = off ∧ q < n + (intOf' X).toNat | _ => False) ∧ z.length = sz ∧ (ag = false → sz = 1) ∧ ∀ c ∈ z.map CV.av, closeOk st.heap c ∧ usedV c = []
  | _ => False

theorem run_app_zeros {P : Program} {w : World} {t u ty e : TypeId} {i : TypeInfo} {z : Value} {kk k : IntKind} (ht : P.underlying t = some (.slice e)) (hu : P.underlying u = some (.int kk)) (hi : P.info? e = some i) (hz : i.zero = some z)
    {A : Option Addr} {n c m : Nat} {olds : List Value} (h1 : ∀ w' : World, w'.heap = w.heap → (Builtin.firstCells i.size n (.slice A n c)).run P w' = .ok olds.toArray w') (h0 : 0 < i.size) (hm : 0 < m)
    (hg : c < n + m) (h63 : n + m ≤ 9223372036854775807) (hfit : (n + m) * i.bytes ≤ 140737488355328) :
    (Builtin.append_ #[t, u] ty #[.slice A n c, .int k m]).run P w =
      .ok (.slice (some ⟨w.heap.size, 0, none⟩) (n + m) (grownCap w (n + m) c e)) (w.drew.alloc (.cells (olds.toArray ++ Builtin.zeroCells z.cells m ++ Builtin.zeroCells z.cells (grownCap w (n + m) c e - (n + m))) e)) := by
  have hn : ¬ (n + m ≤ c) := by omega
  have hw : IntKind.i64.wrap (m : Int) = m := by rw [IntKind.wrap_i64]; omega
  have h63' : ¬ (9223372036854775807 < ((n : Int) + (m : Int))) := by omega
  have h48 := growslice_fits hg hfit
  have h48' : ¬ (281474976710656 < Builtin.nextslicecap (n + m) c * i.bytes) := by omega
  have hmb : m * i.bytes ≤ (n + m) * i.bytes := Nat.mul_le_mul_right _ (by omega)
  have h48i : ¬ (281474976710656 < (m : Int) * (i.bytes : Int)) := by
    rw [← Int.natCast_mul]
    omega
  have hneg : ¬ ((m : Int) < 0) := by omega
  have hns : ¬ (m * i.size = 0) := Nat.mul_ne_zero (by omega) (by omega)
  have hm0 : m ≠ 0 := by omega
  have hfo := h1 w.drew rfl
  simp [Builtin.append_, run_underlying ht, run_underlying hu, sizeOf, typeInfo, zeroValue, hi, hz, asInt, asIntOf, hw, hneg, hns, hn, hm0, h63', h48', h48i, Question.forced, hfo, newRow, grownCap]

theorem g_apz {c : Call} {s x : Operand} {s' x' : AOpr} {t u e : TypeId} {kk : IntKind} {sz bytes d : Nat} {ag : Bool} {z : List CV} (hR : RelW E st a w pl fp) (ho : o.op = .call c) (hc : c.callee = .builtin .append) (hargs : c.args.toList = [s, x]) (htys : c.argTypes.toList = [t, u])
    (hs : chkX s s' = true) (hx : chkX x x' = true) (he : elemIs E.P t = some e) (hz : szIs E.P e sz = true) (hby : bytesIs E.P e bytes = true) (hzz : zszIs E.P e sz = true) (hzv : zeroIs E.P e ag z = true) (h0 : 0 < sz) (hu : E.P.underlying u = some (.int kk))
    (os : st.ok s') (ox : st.ok x') (hp : apzOk st k sz bytes ag z (st.val s') (st.val x') (st.tmp d)) :
    ∃ v w' pl' fp', (execOp a.eval o).run E.P w = .ok (.value v) w' ∧ RelW E (appS st k sz (.sl .ext []) (apzX st ag z (st.val s') (st.val x'))) a w' pl' fp' ∧
      Vals w' (Own E (appS st k sz (.sl .ext []) (apzX st ag z (st.val s') (st.val x'))) fp') E.w0.heap.size pl' [appV st k (.sl .ext []) (apzX st ag z (st.val s') (st.val x'))] [v] [] := by
  obtain ⟨i, zv0, hi, hzero, hzs, hz1⟩ := zszIs_eq hzz
  have hisz : i.size = sz := by have := szIs_eq hz; rw [hi] at this; simpa using this
  have hiby : i.bytes = bytes := by simpa [bytesIs, hi] using hby
  have vs := opr_sound hR hs os
  have vx := opr_sound hR hx ox
  obtain ⟨cs, hex⟩ := execOp_builtin ho hc a
  have hargs' : c.args.map a.eval = #[a.eval s, a.eval x] := by
    have : c.args = #[s, x] := by apply Array.ext'; simpa using hargs
    rw [this]; simp
  have htys' : c.argTypes = #[t, u] := by apply Array.ext'; simpa using htys
  have hrun : ∀ v w', (Builtin.append_ #[t, u] o.type #[a.eval s, a.eval x]).run E.P w = .ok v w' → (execOp a.eval o).run E.P w = .ok (.value v) w' := by
    intro v w' h
    rw [hex, hargs', htys']
    simp [builtin, h]
  have hC : ∀ r off q, st.tmp d = .capv r off q → ∃ p, pl r = some p ∧ q = p.cap - off := by
    intro r off q h
    obtain ⟨v, -, hv⟩ := hR.tmps d (by rw [h]; simp)
    rw [h] at hv
    exact (inv_capv hv).2
  revert hrun hp vs hC
  generalize st.tmp d = C
  generalize st.val s' = S
  generalize a.eval s = sv
  intro hp vs hrun hC
  cases S with
  | hdr r off n =>
    obtain ⟨hus, hnews, hxi, hx0, hb, h63, hcap, hzl, hag, hzc⟩ := hp
    obtain ⟨kx, xi, e1, e2⟩ := inv_isInt vx hxi
    rw [e1] at hx0 hb h63 hcap ⊢
    simp only [intOf'] at hx0 hb h63 hcap
    obtain ⟨m, rfl⟩ : ∃ m : Nat, xi = m := ⟨xi.toNat, by omega⟩
    simp only [Int.toNat_natCast] at hb h63 hcap
    cases C <;> first | exact hcap.elim | skip
    rename_i r' off' q
    obtain ⟨rfl, rfl, hq⟩ := hcap
    obtain ⟨p, hp1, hq1⟩ := hC _ _ _ rfl
    -- the part that is kept
    obtain ⟨A2, c2, e3, ⟨⟨ncs, fn, vn, dn, mn, an⟩, un, on⟩⟩ := news_sound hR vs hnews (by simp [St.newsUsed]) (fun s e => by cases e)
    have hfn : fn = [] := by
      cases fn with
      | nil => rfl
      | cons b fn => obtain ⟨q, hq, _⟩ := mn b (by simp); simp [St.newsUsed] at hq
    subst hfn
    subst e3
    have hpart : st.news (.hdr r' off' n) = partOf st (.hdr r' off' n) := rfl
    obtain ⟨hlr, hbox, hle, hsz', hshr⟩ := hnews
    have hplen : (partOf st (.hdr r' off' n)).length = n := by simp only [partOf, List.length_take, List.length_drop]; omega
    rw [hpart] at vn un on an
    -- its room
    have hc2 : c2 = p.cap - off' ∧ n ≤ c2 := by
      rw [hpart] at vs
      generalize hL : (partOf st (.hdr r' off' n)).length = L at vs
      cases vs with
      | hdr h hn hA tt =>
        rw [hp1] at h
        injection h with h
        subst h
        exact ⟨rfl, by omega⟩
      | hdre h tt =>
        rw [hp1] at h
        injection h with h
        subst h
        exact ⟨by simp, by omega⟩
    have hg : c2 < n + m := by omega
    -- the zeros
    have hzeroV : ∃ zv, i.zero = some zv ∧ zv.cells.size = sz ∧ Vals w (Own E st fp) E.w0.heap.size pl (z.map CV.av) zv.cells.toList [] ∧ ∀ c ∈ z.map CV.av, c.one = true := by
      cases ag with
      | true =>
        obtain ⟨i', cs, hi', hzero', hcs⟩ := zeroIs_true hzv
        rw [hi] at hi'; injection hi' with hi'; subst hi'
        obtain ⟨h1, h2⟩ := chkCs_sound (w := w) (O := Own E st fp) (B := E.w0.heap.size) (pl := pl) _ _ hcs
        exact ⟨.agg cs, hzero', by have := h1.length; simp at this; simp [Value.cells, this, hzl], by simpa [Value.cells] using h1, h2⟩
      | false =>
        obtain ⟨i', v, hi', hzero', hna, hcs⟩ := zeroIs_false hzv
        rw [hi] at hi'; injection hi' with hi'; subst hi'
        obtain ⟨h1, h2⟩ := chkCs_sound (w := w) (O := Own E st fp) (B := E.w0.heap.size) (pl := pl) _ _ hcs
        have hvc : v.cells = #[v] := by cases v <;> first | rfl | exact absurd rfl (hna _)
        exact ⟨v, hzero', by rw [hvc]; simp [hag rfl], by rw [hvc]; simpa using h1, h2⟩
    obtain ⟨zv, hzr, hzs', hzvv, hzone⟩ := hzeroV
    rw [hzero] at hzr
    injection hzr with hzr
    subst hzr
    have hze : cellsOf (asVar ag (z.map CV.av)) = z.map CV.av := asVar_cells hzone (fun h => by simpa [hzl] using hag h)
    have hsh : (asVar ag (z.map CV.av)).one = true ∨ ∃ cs, asVar ag (z.map CV.av) = .agg cs := oneOrAgg (fun c hc => hzone c (by rwa [hze] at hc))
    have hzE : cellsOf (zeroE st.heap ag z) = (z.map CV.av).map (closeV st.heap) := by
      unfold zeroE
      rw [closeE_cells hsh, hze]
    have hun : (z.map CV.av).flatMap usedV = [] := by
      rw [List.flatMap_eq_nil_iff]
      exact fun c hc => (hzc c hc).2
    obtain ⟨f, v1, nd, m1⟩ := closeL hR _ _ hzvv (fun c hc => (hzc c hc).1) (by rw [hun]; simp)
    have hf : f = [] := by
      cases f with
      | nil => rfl
      | cons b f => obtain ⟨q, hq, _⟩ := m1 b (by simp); rw [hun] at hq; cases hq
    subst hf
    have hfl : flat (List.replicate m (zeroE st.heap ag z)) = (List.replicate m ((z.map CV.av).map (closeV st.heap))).flatten := by
      rw [← hzE]
      unfold flat
      rw [List.flatMap_replicate]
    have hvz : Vals w (Own E st fp) E.w0.heap.size noPl (flat (List.replicate m (zeroE st.heap ag z))) (List.replicate m zv0.cells.toList).flatten [] := by
      rw [hfl]; exact vals_rep v1 m
    have hone : ∀ c ∈ flat (List.replicate m (zeroE st.heap ag z)), c.one = true := by
      rw [hfl]
      intro c hc
      obtain ⟨l, hl, hcl⟩ := List.mem_flatten.1 hc
      obtain ⟨-, rfl⟩ := List.mem_replicate.1 hl
      obtain ⟨d, hd, rfl⟩ := List.mem_map.1 hcl
      exact closeV_one (hzc d hd).1
    have hlz : ∀ y ∈ List.replicate m (zeroE st.heap ag z), (cellsOf y).length = sz := by
      intro y hy
      obtain ⟨-, rfl⟩ := List.mem_replicate.1 hy
      rw [hzE]; simp [hzl]
    have hzc' : (Builtin.zeroCells zv0.cells m).toList = (List.replicate m zv0.cells.toList).flatten := by
      have hz0 := zero_cells zv0.cells sz hzs' h0 m
      unfold Builtin.zeroCells
      rw [hzs']
      rw [hzs'] at hz0
      exact hz0
    obtain ⟨X, hX⟩ : ∃ X, X = apzX st ag z (.hdr r' off' n) (.int kx m) := ⟨_, rfl⟩
    have hnewsX : st.news X = partOf st (.hdr r' off' n) ++ List.replicate m (zeroE st.heap ag z) := by rw [hX]; rfl
    have husedX : St.newsUsed X = [] := by rw [hX]; rfl
    have hlen : (st.news X).length = n + m := by rw [hnewsX, List.length_append, hplen, List.length_replicate]
    rw [← hX]
    have hln := flat_len vn un
    rw [hplen] at hln
    have hr := run_app_zeros (P := E.P) (w := w) (t := t) (u := u) (ty := o.type) (e := e) (i := i) (z := zv0) (k := kx) (elemIs_eq he) hu hi hzero (A := A2) (n := n) (c := c2) (m := m) (olds := ncs)
      (fun w2 h2 => by
        rw [hisz]
        have := run_firstCells (P := E.P) (w := w2) (size := sz) (n := n) (A := A2) (len := n) (cap := c2) hln (fun hp => by obtain ⟨b, p, e, h⟩ := an (by rw [hplen]; exact hp); exact ⟨b, p, e, h.move (by rw [h2])⟩)
        exact this)
      (by rw [hisz]; exact h0) (by omega) hg h63 (by rw [hiby]; exact hb)
    obtain ⟨pl', fp', h1, h2⟩ := app_grow (w' := w.drew.alloc (.cells (ncs.toArray ++ Builtin.zeroCells zv0.cells m ++ Builtin.zeroCells zv0.cells (grownCap w (n + m) c2 e - (n + m))) e)) (k := k) (sz := sz) (S := .sl .ext []) (X := X)
      (v := .slice (some ⟨w.heap.size, 0, none⟩) (n + m) (grownCap w (n + m) c2 e)) (ncs := ncs ++ (List.replicate m zv0.cells.toList).flatten) (fn := []) hR hus h0 (A1 := none)
      ⟨⟨[], [], .nil, by simp, by simp, by simp [St.olds]⟩, by simp [St.olds], by simp [St.olds, flat]⟩
      (by rw [hnewsX, flat_append]; simpa using vn.append hvz) (by simp) (by simp)
      (by rw [hnewsX]; intro y hy; exact (List.mem_append.1 hy).elim (un y) (hlz y))
      (by rw [hnewsX, flat_append]; intro y hy; exact (List.mem_append.1 hy).elim (on y) (hone y))
      (by simp [St.oldsUsed, husedX, usedE, flat]) (by simp [St.oldsUsed, husedX, usedE, flat])
      (by
        rintro ocs ⟨ho1, -⟩
        have : ocs = [] := by simpa [St.olds] using ho1
        subst this
        refine ⟨grownCap w (n + m) c2 e, e, (Builtin.zeroCells zv0.cells (grownCap w (n + m) c2 e - (n + m))).toList, ?_, ?_, zeroCells_one hz1 (by omega) _, ?_, ?_⟩
        · simp only [St.olds, List.map_nil, List.length_nil, Nat.zero_add, hlen]; exact grownCap_ge _ _ _ _
        · rw [Array.length_toList, size_zeroCells, hzs']; simp [St.olds, hlen]
        · congr 2
          apply Array.ext'
          simp [hzc']
        · simp [St.olds, hlen])
    exact ⟨_, _, pl', fp', hrun _ _ (by rw [e2, hpart, hplen]; exact hr), h1, h2⟩
  | _ => exact hp.elim

/-! ### overlaps -/
theorem ovl_l1 : Extern.allNextRows.lookup "slices.overlaps" = none := by kernel_rfl
theorem ovl_l2 : Extern.allGenericRows.lookup "slices.overlaps" = none := by kernel_rfl
theorem ovl_l3 : Extern.allTypedRows.lookup "slices.overlaps" = some Extern.SlicesOverlaps.overlaps := by kernel_rfl

/-- Two slices in two blocks of which the second is a row of the call's own. -/
theorem run_overlaps_own {P : Program} (w : World) (ps rs : Array TypeId) (t e : TypeId) (h0 : ps[0]? = some t) (ht : P.underlying t = some (.slice e)) (size : Nat) (hz : ∀ w, (Go.sizeOf e).run P w = .ok size w)
    (x y : Addr) (la ca lb cb : Nat) (hne : x.block ≠ y.block) (tA tB : TypeId) (kA kB : Nat) (hsa : w.shape? x.block = some (tA, kA)) (hkA : kA ≠ 0) (hsb : w.shape? y.block = some (tB, kB))
    (hfa : w.frozen? y = false) (hfe : w.frozen? { block := y.block, off := kB } = false) (hkB : kB ≠ 0) :
    (Extern.SlicesOverlaps.overlaps ps rs #[.slice (some x) la ca, .slice (some y) lb cb]).run P w = .ok (.bool false) w := by
  have hnb : (x.block != y.block) = true := by simpa using hne
  have hnb' : (x.block == y.block) = false := by simpa using hne
  change Sem.run P (α := Value) (do
    let some t := ps[0]? | stuck "slices.overlaps: no parameter types"
    let .slice elem ← underlying t | stuck "slices.overlaps: slice type expected"
    let size ← sizeOf elem
    match (some x : Option Addr), (some y : Option Addr) with
    | some a, some b =>
      if la = 0 ∨ lb = 0 ∨ size = 0 then pure (Value.bool false)
      else if a.block != b.block && (← frozen a) && (← frozen b) then unsupported .addressObserved
      else do
        if a.block != b.block then do
          noView a; noView b
          if ← mayBeOne a b then return Value.bool ((← choose (.extern "sameAddr.stringBytes" 2)) == 1)
        pure (Value.bool (a.block == b.block && a.off < b.off + lb * size && b.off < a.off + la * size))
    | _, _ => pure (Value.bool false)) w = _
  rw [h0]
  by_cases h0 : la = 0 ∨ lb = 0 ∨ size = 0
  · simp [run_underlying ht, hz, h0]
  · obtain ⟨kA, rfl⟩ : ∃ q, kA = q + 1 := ⟨kA - 1, by omega⟩
    obtain ⟨kB, rfl⟩ : ∃ q, kB = q + 1 := ⟨kB - 1, by omega⟩
    cases hx : w.frozen? x <;> cases hx2 : w.frozen? { block := x.block, off := kA + 1 } <;>
      simp [run_underlying ht, hz, h0, hnb, hnb', frozen, noView, viewAt, mayBeOne, stringish, shape, Sem.run, hsa, hsb, hfa, hfe, hx, hx2]

theorem run_overlaps_zero {P : Program} (w : World) (ps rs : Array TypeId) (t e : TypeId) (h0 : ps[0]? = some t) (ht : P.underlying t = some (.slice e)) (size : Nat) (hz : ∀ w, (Go.sizeOf e).run P w = .ok size w)
    (x : Addr) (y : Option Addr) (la ca cb : Nat) : (Extern.SlicesOverlaps.overlaps ps rs #[.slice (some x) la ca, .slice y 0 cb]).run P w = .ok (.bool false) w := by
  change Sem.run P (α := Value) (do
    let some t := ps[0]? | stuck "slices.overlaps: no parameter types"
    let .slice elem ← underlying t | stuck "slices.overlaps: slice type expected"
    let size ← sizeOf elem
    match (some x : Option Addr), (y : Option Addr) with
    | some a, some b =>
      if la = 0 ∨ 0 = 0 ∨ size = 0 then pure (Value.bool false)
      else if a.block != b.block && (← frozen a) && (← frozen b) then unsupported .addressObserved
      else do
        if a.block != b.block then do
          noView a; noView b
          if ← mayBeOne a b then return Value.bool ((← choose (.extern "sameAddr.stringBytes" 2)) == 1)
        pure (Value.bool (a.block == b.block && a.off < b.off + 0 * size && b.off < a.off + la * size))
    | _, _ => pure (Value.bool false)) w = _
  rw [h0]
  cases y <;> simp [run_underlying ht, hz]

theorem g_ovl {c : Call} {g : Nat} {x y : Operand} {x' y' : AOpr} (hR : RelW E st a w pl fp) (ho : o.op = .call c) (hc : c.callee = .value (.func g)) (ha : c.args.toList = [x, y])
    (h2 : chkX x x' = true) (h3 : chkX y y' = true) (hb : ovlExt E.P g = true) (hp : pop st k (.ovl x' y')) : Gives E st a w pl fp o (vop st k (.ovl x' y')) := by
  obtain ⟨hx, hy, hm⟩ := hp
  have hvx := opr_sound hR h2 hx
  have hvy := opr_sound hR h3 hy
  simp only [vop]
  revert hm hvx hvy
  generalize st.val x' = X
  generalize st.val y' = Y
  generalize hu : a.eval x = u
  generalize hv : a.eval y = v
  intro hm hvx hvy
  cases X <;> first | exact hm.elim | skip
  rename_i K xs
  cases Y <;> first | exact hm.elim | skip
  rename_i r off n
  obtain ⟨hK, hxs, hlr, hes⟩ := hm
  refine ⟨.bool false, ?_, .bool .nil⟩
  have ha' : c.args = #[x, y] := by apply Array.ext'; simpa using ha
  have he : execOp a.eval o = callFunc g (c.args.map a.eval) := by
    simp only [execOp, ho, resolve, hc, Deferred.ofValue]
    show callFunc g ((#[] ++ c.args.map a.eval) ++ #[]) = _
    simp
  have hargs : c.args.map a.eval = #[u, v] := by rw [ha']; simp [hu, hv]
  -- the first slice
  obtain ⟨b1, p1, c1, cs1, rfl, hb1, hl1, hat1, hcs1⟩ : ∃ b p c cs, u = .slice (some ⟨b, p, none⟩) xs.length c ∧ ¬ Own E st fp b ∧ b < w.heap.size ∧ At w b p cs ∧ 0 < cs.length := by
    have hlen : ∀ {sz : Nat} {cs : List Value} {pl0 : Pls}, 0 < sz → (∀ x ∈ xs, (cellsOf x).length = sz) → Vals w (Own E st fp) E.w0.heap.size pl0 (flat xs) cs [] → 0 < cs.length := by
      intro sz cs pl0 hz hu hc
      rw [hc.length, flat_length hu]
      exact Nat.mul_pos (List.length_pos_iff.2 hxs) hz
    cases hvx with
    | sle hk hc t => exact absurd rfl hxs
    | slf hk hx hb hl hz hu1 ho hc ha hn t => cases t; exact ⟨_, _, _, _, rfl, hb, hl, ha, hlen hz hu1 hc⟩
    | slx hx hb hl hz hu1 ho hc ha t => cases t; exact ⟨_, _, _, _, rfl, hb, hl, ha, hlen hz hu1 hc⟩
    | _ => exact hK.elim
  obtain ⟨cell1, ty1, fr1, hh1, hs1⟩ : ∃ cells ty fr, w.heap[b1]? = some (.cells cells ty fr) ∧ 0 < cells.size := by
    have := hat1 0 _ (List.getElem?_eq_getElem hcs1)
    unfold World.cell? at this
    split at this
    · rename_i c0 t0 f0 hc0
      refine ⟨_, _, _, hc0, ?_⟩
      simp at this
      obtain ⟨hlt, _⟩ := Array.getElem?_eq_some_iff.1 this
      omega
    · cases this
  -- the second
  obtain ⟨blk, hbk⟩ := Option.isSome_iff_exists.1 hlr
  rw [blk_eq hbk] at hes
  obtain ⟨hz, ⟨j, h, hes', -⟩ | ⟨b, j, cap, cs, fp1, h, hrow, hl, hu2, ho1, hn', hcv, hat, hfe⟩⟩ := (hR.roots r blk hbk).inv
  · rw [hes'] at hes; simp at hes
  have hbr : b ∈ fp r := by rw [hfe]; simp
  have hne : b1 ≠ b := fun e => hb1 (.inr ⟨r, hlr, by rw [e]; exact hbr⟩)
  obtain ⟨A, rfl, hA⟩ : ∃ A, v = .slice A n (cap - off) ∧ (off + n ≤ cap ∧ (A = some ⟨b, (j + off) * blk.sz, none⟩ ∨ cap = off)) := by
    cases hvy with
    | hdre h' tt => rw [h] at h'; cases h'
    | @hdr _ _ _ _ b' j' sz' cap' A _ _ _ h' hn hA tt =>
      rw [h] at h'
      injection h' with h'
      injection h' with q1 q2 q3 q4
      injection q1 with q1
      subst q1 q2 q3 q4
      exact ⟨_, rfl, hn, hA⟩
  unfold ovlExt at hb
  split at hb
  · rename_i fn hf
    simp only [Bool.and_eq_true, beq_iff_eq, bne_iff_ne, ne_eq, Option.isNone_iff_eq_none] at hb
    obtain ⟨⟨⟨⟨⟨⟨⟨h4, h5⟩, h6⟩, h7⟩, h8⟩, h9⟩, h10⟩, h11⟩ := hb
    split at h11
    · rename_i t ts hts
      split at h11
      · rename_i e hel
        obtain ⟨inf, hinf⟩ := Option.isSome_iff_exists.1 h11
        have hn : Extern.findNext fn = none := by simp [Extern.findNext, h5, h7, ovl_l1]
        have hf2 : Extern.find fn = some (Extern.SlicesOverlaps.overlaps fn.params fn.resultTypes) := by simp [Extern.find, h5, h8, h9, h10, ovl_l2, ovl_l3]
        have hp0 : fn.params[0]? = some t := by rw [← Array.getElem?_toList, hts]; rfl
        have hsz : ∀ w, (Go.sizeOf e).run E.P w = .ok inf.size w := fun w => by simp [Go.sizeOf, typeInfo, hinf]
        have hrun : (Extern.SlicesOverlaps.overlaps fn.params fn.resultTypes #[.slice (some ⟨b1, p1, none⟩) xs.length c1, .slice A n (cap - off)]).run E.P w = .ok (.bool false) w := by
          by_cases hn0 : n = 0
          · subst hn0
            exact run_overlaps_zero w _ _ t e hp0 (elemIs_eq hel) inf.size hsz _ _ _ _ _
          · obtain ⟨hA1, hA2⟩ := hA
            have hA' : A = some ⟨b, (j + off) * blk.sz, none⟩ := hA2.resolve_right (by omega)
            subst hA'
            obtain ⟨cells, ty, fr, hcells, hsize, hfr, hone⟩ := id hrow
            have hlt : (j + off) * blk.sz < (j + cap) * blk.sz := Nat.mul_lt_mul_of_pos_right (by omega) hz
            refine run_overlaps_own w _ _ t e hp0 (elemIs_eq hel) inf.size hsz ⟨b1, p1, none⟩ ⟨b, (j + off) * blk.sz, none⟩ _ _ _ _ hne ty1 ty cell1.size cells.size (by simp [World.shape?, hh1]) (by omega) (by simp [World.shape?, hcells]) (row_cell hrow _ hlt).2 ?_ (by omega)
            simp only [World.frozen?, hcells]
            have : ¬ (fr.1 ≤ cells.size ∧ cells.size < fr.2) := by omega
            simpa using this
        rw [he, hargs, run_callFunc_extern hf (by simpa using h6) (by simp [h4]) hn hf2, hrun]
        rfl
      · cases h11
    · cases h11
  · cases hb
end
end Go.Amb

set_option linter.unusedSimpArgs false
set_option linter.unusedVariables false
namespace Go.Amb
open Go Go.RowKit

mutual
/-- No memory but what it owns. -/
def sc : AV → Bool
  | .int .. | .bool _ | .str _ | .nilp | .nilf | .nili => true
  | .sl (.own _) xs => scs xs
  | .sl _ xs => xs.isEmpty
  | .agg cs | .tup cs => scs cs
  | _ => false
def scs : List AV → Bool
  | [] => true
  | v :: vs => sc v && scs vs
end
theorem scs_all (xs : List AV) : scs xs = xs.all sc := by
  induction xs with
  | nil => rfl
  | cons x xs ih => simp [scs, ih]
theorem scs_flat {xs : List AV} (h : scs xs = true) : scs (flat xs) = true := by
  rw [scs_all, List.all_eq_true] at *
  intro x hx
  simp only [flat, List.mem_flatMap] at hx
  obtain ⟨y, hy, hx⟩ := hx
  have hy' := h y hy
  cases y with
  | agg cs =>
    simp only [cellsOf] at hx
    simp only [sc, scs_all, List.all_eq_true] at hy'
    exact hy' x hx
  | _ => simp only [cellsOf, List.mem_singleton] at hx; subst hx; exact hy'

theorem sc_shift {w : World} {O O' : Nat → Prop} {B B' : Nat} {pl : Pls} {vs : List AV} {us : List Value} {fp : List Nat} (h : Vals w O B pl vs us fp) : scs vs = true → ∀ pl', Vals w O' B' pl' vs us fp := by
  induction h with
  | nil => intros; exact .nil
  | int t ih => intro hs pl'; exact .int (ih (by simpa [scs, sc] using hs) _)
  | bool t ih => intro hs pl'; exact .bool (ih (by simpa [scs, sc] using hs) _)
  | str t ih => intro hs pl'; exact .str (ih (by simpa [scs, sc] using hs) _)
  | nilp t ih => intro hs pl'; exact .nilp (ih (by simpa [scs, sc] using hs) _)
  | nilf t ih => intro hs pl'; exact .nilf (ih (by simpa [scs, sc] using hs) _)
  | nili t ih => intro hs pl'; exact .nili (ih (by simpa [scs, sc] using hs) _)
  | ptr h t ih => intro hs; simp [scs, sc] at hs
  | fptr hb hl hc ha t ihc ih => intro hs; simp [scs, sc] at hs
  | @sle pl k A c vs us fp hk hc t ih =>
    intro hs pl'
    refine .sle hk hc (ih ?_ _)
    cases k <;> simp_all [scs, sc, SK.ro]
  | slf hk hx hb hl hz hu ho hc ha hn t ihc ih =>
    intro hs pl'
    rcases hk with rfl | rfl <;> simp [scs, sc, hx] at hs
  | slx hx hb hl hz hu ho hc ha t ihc ih => intro hs pl'; simp [scs, sc, hx] at hs
  | owe t ih => intro hs pl'; exact .owe (ih (by simpa [scs, sc] using hs) _)
  | ow hr hl hz hu ho hn hc ha t ihc ih =>
    intro hs pl'
    simp only [scs, sc, Bool.and_eq_true] at hs
    exact .ow hr hl hz hu ho hn (ihc (scs_flat hs.1) _) ha (ih hs.2 _)
  | hdr h hn hA t ih => intro hs; simp [scs, sc] at hs
  | hdre h t ih => intro hs; simp [scs, sc] at hs
  | agg ho hc t ihc ih => intro hs pl'; simp only [scs, sc, Bool.and_eq_true] at hs; exact .agg ho (ihc hs.1 _) (ih hs.2 _)
  | tup hc t ihc ih => intro hs pl'; simp only [scs, sc, Bool.and_eq_true] at hs; exact .tup (ihc hs.1 _) (ih hs.2 _)
  | fn hc t ihc ih => intro hs; simp [scs, sc] at hs
  | mfn hc t ihc ih => intro hs; simp [scs, sc] at hs
  | ifc hc t ihc ih => intro hs; simp [scs, sc] at hs
  | capv h hq t ih => intro hs; simp [scs, sc] at hs
  | any hu t ih => intro hs; simp [scs, sc] at hs
  | grd hc hu t ihc ih => intro hs; simp [scs, sc] at hs

/-! ### contracts -/
def Back (w : World) (X : Nat → Prop) (Q : AV → Prop) : Ending → World → Prop
  | .returned v, w' => ∃ r fr, Q r ∧ Vals w' (fun b => X b ∨ b ∈ fr) 0 noPl [r] [v] fr ∧ fr.Nodup ∧ (∀ b ∈ fr, w.heap.size ≤ b ∧ b < w'.heap.size) ∧ Keeps (fun _ => False) w w'
  | _, _ => False
/-- Called with these arguments, the function returns a value of which Q holds, and leaves all memory that was there alone. -/
def ACall (P : Program) (f : Nat) (args : List AV) (Q : AV → Prop) : Prop :=
  bodied P f = true ∧ ∀ (w : World) (X : Nat → Prop) (us : List Value), (∀ b, X b → b < w.heap.size) → Vals w X 0 noPl args us [] → Calls P f us.toArray w (Back w X Q)
theorem ACall.mono {P : Program} {f : Nat} {args : List AV} {Q Q' : AV → Prop} (h : ACall P f args Q) (hq : ∀ r, Q r → Q' r) : ACall P f args Q' :=
  ⟨h.1, fun w X us hx hv => Calls.mono (h.2 w X us hx hv) fun e w' he => by
    cases e with
    | returned v => obtain ⟨r, fr, h1, h2⟩ := he; exact ⟨r, fr, hq r h1, h2⟩
    | _ => exact he⟩

def adoptS (st : St) (k sz : Nat) (xs : List AV) : St := { st with heap := hupd st.heap (st.nx + k) (some ⟨sz, false, xs⟩), us := uupd st.us (st.nx + k) }
/-- What comes back is frozen, or becomes a root. -/
def retK (i : AI) (st : St) (K : St → Prop) (r : AV) : Prop :=
  if i.ad then
    match r with
    | .sl (.own sz) xs => st.us (st.nx + i.k) = false ∧ 0 < sz ∧ K ((adoptS st i.k sz xs).put i.dst (.hdr (st.nx + i.k) 0 xs.length))
    | _ => False
  else K (st.put i.dst (clC r))
/-- A call that is handed roots. -/
def evLend (P : Program) (i : AI) (st : St) (K : St → Prop) (f : Nat) (vs : List AV) : Prop :=
  ∃ H0 N Q, BCall P f H0 N vs Q ∧ (∀ q b, mkH H0 q = some b → st.heap q = some b) ∧ (∀ r, st.us r = true → r < N) ∧ ∀ H1 n' r, Q H1 n' r → K ((afterS st H0 H1 N n').put i.dst r)
def evFree (P : Program) (i : AI) (st : St) (K : St → Prop) (f : Nat) (vs : List AV) : Prop :=
  ∃ Q, ACall P f (vs.map (fzA st.heap)) Q ∧ ((okAs noF noF vs ∧ ∀ r, Q r → retK i st K r) ∨ (okAs (okB st.heap) (okQ st.heap) vs ∧ ∀ r, Q r → sc r = true ∧ retK i st K r))
def evCall (P : Program) (i : AI) (st : St) (K : St → Prop) (f : Nat) (vs : List AV) : Prop := evFree P i st K f vs ∨ evLend P i st K f vs
def isSl : AV → Bool
  | .sl .. | .hdr .. => true
  | _ => false
/-- An operation that is wanted. -/
def evOp (P : Program) (i : AI) (st : St) (K : St → Prop) : Prop :=
  match i.op with
  | .app sz bytes s x => st.ok s ∧ st.ok x ∧ ((appOk st i.k sz bytes (st.val s) (st.val x) ∧ K ((appS st i.k sz (st.val s) (st.val x)).put i.dst (appV st i.k (st.val s) (st.val x)))) ∨
      (intoOk st sz (st.val s) (st.val x) ∧ K ((intoS st (st.val s) (st.val x)).put i.dst (intoV st (st.val s) (st.val x)))))
  | .slm x l h m => slmOk st x l h m ∧ K (st.put i.dst .undef)
  | .clr sz ag z x => st.ok x ∧ clrOk st sz ag z (st.val x) ∧ K ((clrS st ag z (st.val x)).put i.dst (.tup []))
  | .cpy sz d x => st.ok d ∧ st.ok x ∧ cpyOk st sz (st.val d) (st.val x) ∧ K ((cpyS st (st.val d) (st.val x)).put i.dst (.int .i64 (cpyN st (st.val d) (st.val x))))
  | .cap sz x => st.ok x ∧ capOk st sz (st.val x) ∧ ∀ q : Nat, lenOf (st.val x) ≤ q → K ((capS st sz (st.val x) q).put i.dst (capV (st.val x) q))
  | .apz sz bytes ag z s x d => st.ok s ∧ st.ok x ∧ apzOk st i.k sz bytes ag z (st.val s) (st.val x) (st.tmp d) ∧ K ((appS st i.k sz (.sl .ext []) (apzX st ag z (st.val s) (st.val x))).put i.dst (appV st i.k (.sl .ext []) (apzX st ag z (st.val s) (st.val x))))
  | .store n agg a x => st.ok a ∧ st.ok x ∧ storeOk st n agg (st.val a) (st.val x) ∧ K ((storeS st (st.val a) (st.val x)).put i.dst .undef)
  | .eqz ng x => st.ok x ∧ isSl (st.val x) = true ∧ ∀ b, (0 < lenOf (st.val x) → b = false) → K (st.put i.dst (.bool (if ng then !b else b)))
  | .call f args => (∀ x ∈ args, st.ok x) ∧ evCall P i st K f (args.map st.val)
  | .callv x args => st.ok x ∧ (∀ y ∈ args, st.ok y) ∧ (match st.val x with | .fn f caps => evCall P i st K f (args.map st.val ++ caps) | .mfn f bnd => evCall P i st K f (bnd ++ args.map st.val) | _ => False)
  | op => pop st i.k op ∧ K ((st.make i.k (rop st op)).put i.dst (vop st i.k op))

section
variable {E : Env} {st : St} {a : Act} {w w' : World} {pl pl' : Pls} {fp : Nat → List Nat} {o : Oper} {k : Nat} {i : AI} {K : St → Prop} {Q : Exit → Act → World → Prop}

theorem vops_sound {aop : AOp} (hc : chkOp E.P o.op aop = true) (hR : RelW E st a w pl fp) (hp : pop st k aop) : Makes E st a w o (rop st aop) k (vop st k aop) := by
  unfold chkOp at hc
  split at hc
  · rename_i ho; exact (g_mov hR (.inl ho) hc hp).makes hR
  · rename_i ho; exact (g_mov hR (.inr ho) hc hp).makes hR
  · rename_i ho; simp only [Bool.and_eq_true] at hc; exact (g_pick hR ho hc.1.1 hc.1.2 hc.2 hp).makes hR
  · rename_i ho; simp only [Bool.and_eq_true, decide_eq_true_eq] at hc; obtain ⟨⟨rfl, h1⟩, h2⟩ := hc; exact (g_bin hR ho h1 h2 hp).makes hR
  · rename_i ho
    simp only [Bool.and_eq_true, decide_eq_true_eq] at hc
    obtain ⟨⟨⟨h0, h1⟩, h2⟩, h3⟩ := hc
    refine (g_eqb hR ho h0 ?_ h2 h3 hp).makes hR
    split at h1
    · assumption
    · cases h1
  · rename_i ho; simp only [Bool.and_eq_true, decide_eq_true_eq] at hc; exact (g_eqn hR ho hc.1.1 hc.1.2 hc.2 hp).makes hR
  · exact hp.elim
  · rename_i ho
    simp only [Bool.and_eq_true, decide_eq_true_eq, Bool.not_eq_true'] at hc
    obtain ⟨⟨⟨⟨⟨h0, h1⟩, h2⟩, h3⟩, h4⟩, h5⟩ := hc
    exact (g_eqs hR ho h0 h1 h2 h3 h4 h5 hp).makes hR
  · rename_i ho; exact (g_neg hR ho hc hp).makes hR
  · rename_i ho; exact (g_not hR ho hc hp).makes hR
  · rename_i ho; exact (g_com hR ho hc hp).makes hR
  · rename_i ho; simp only [Bool.and_eq_true] at hc; exact g_alloc hR ho hc.1 hc.2 hp
  · rename_i ho; exact g_box hR ho hc hp
  · rename_i ho
    simp only [Bool.and_eq_true] at hc
    obtain ⟨h1, h2⟩ := hc
    split at h2
    · rename_i fs hf
      simp only [Bool.and_eq_true, List.all_eq_true] at h2
      exact (g_build hR ho h1 hf h2.1 h2.2 hp).makes hR
    · cases h2
  · rename_i ho
    simp only [Bool.and_eq_true, decide_eq_true_eq] at hc
    obtain ⟨h1, h2⟩ := hc
    split at h1
    · rename_i e he
      simp only [Bool.and_eq_true] at h1
      exact g_bsl hR ho he h1.1.1 h1.1.2 h1.2 h2 hp
    · cases h1
  · rename_i ho; simp only [Bool.and_eq_true] at hc; exact (g_load hR ho hc.1.1 hc.1.2 hc.2 hp).makes hR
  · exact hp.elim
  · rename_i ho
    simp only [Bool.and_eq_true] at hc
    obtain ⟨h1, h2⟩ := hc
    split at h2
    · rename_i fs hf
      split at h2
      · rename_i fld hfl
        simp only [Bool.and_eq_true, decide_eq_true_eq, Bool.not_eq_true'] at h2
        exact (g_fad hR ho h1 hf hfl h2.1.1 h2.1.2 h2.2 hp).makes hR
      · cases h2
    · cases h2
  · rename_i ho
    simp only [Bool.and_eq_true] at hc
    obtain ⟨⟨h1, h2⟩, h3⟩ := hc
    split at h3
    · rename_i e he
      exact (g_iad hR ho h1 h2 he h3 hp).makes hR
    · cases h3
  · rename_i ho
    simp only [Bool.and_eq_true] at hc
    obtain ⟨h1, h2⟩ := hc
    split at h2
    · rename_i fs hf
      split at h2
      · rename_i fld hfl
        simp only [Bool.and_eq_true, decide_eq_true_eq] at h2
        exact (g_fld hR ho h1 hf hfl h2.1.1 h2.1.2 h2.2 hp).makes hR
      · cases h2
    · cases h2
  · rename_i ho
    simp only [Bool.and_eq_true] at hc
    obtain ⟨⟨h1, h2⟩, h3⟩ := hc
    split at h3
    · rename_i ht; exact (g_sidx hR ho h1 h2 ht hp).makes hR
    · cases h3
  · rename_i ho
    simp only [Bool.and_eq_true] at hc
    obtain ⟨⟨⟨⟨h1, h2⟩, h3⟩, h4⟩, h5⟩ := hc
    split at h5
    · rename_i e he; exact (g_slice hR ho h1 h2 h3 h4 he h5 hp).makes hR
    · cases h5
  · exact hp.elim
  · rename_i ho
    simp only [Bool.and_eq_true] at hc
    obtain ⟨⟨⟨h1, h2⟩, h3⟩, h4⟩ := hc
    split at h4
    · rename_i ht; exact (g_sslice hR ho h1 h2 h3 ht hp).makes hR
    · cases h4
  · rename_i ho
    simp only [Bool.and_eq_true] at hc
    obtain ⟨⟨h1, h2⟩, h3⟩ := hc
    split at h3
    · rename_i k' hk
      simp only [decide_eq_true_eq] at h3
      subst h3
      exact (g_conv hR ho (Option.isSome_iff_exists.1 h2) hk h1 hp).makes hR
    · cases h3
  · rename_i ho
    simp only [Bool.and_eq_true] at hc
    obtain ⟨⟨h1, h2⟩, h3⟩ := hc
    split at h2
    · rename_i e he
      simp only [Bool.and_eq_true] at h2
      obtain ⟨h4, h5⟩ := h2
      split at h4
      · rename_i hu
        split at h3
        · rename_i ht
          exact (g_b2s hR ho h1 (elemIs_eq he) hu ht hp).makes hR
        · cases h3
      · cases h4
    · cases h2
  · rename_i ho
    simp only [Bool.and_eq_true] at hc
    obtain ⟨⟨h1, h2⟩, h3⟩ := hc
    split at h2
    · rename_i e he
      simp only [Bool.and_eq_true] at h2
      obtain ⟨h4, h5⟩ := h2
      split at h4
      · rename_i hu
        split at h3
        · rename_i ht
          exact g_s2b hR ho h1 ht (elemIs_eq he) hu hp
        · cases h3
      · cases h4
    · cases h2
  · rename_i ho; simp only [Bool.and_eq_true, decide_eq_true_eq] at hc; obtain ⟨h1, rfl⟩ := hc; exact (g_ext hR ho h1 hp).makes hR
  · rename_i ho
    simp only [Bool.and_eq_true, decide_eq_true_eq, Array.isEmpty_iff] at hc
    obtain ⟨⟨rfl, rfl⟩, h1⟩ := hc
    exact (g_mkf hR ho h1 hp).makes hR
  · rename_i ho
    simp only [Bool.and_eq_true, decide_eq_true_eq, Array.isEmpty_iff] at hc
    obtain ⟨⟨rfl, rfl⟩, h1⟩ := hc
    exact (g_mkm hR ho h1 hp).makes hR
  · rename_i ho; exact (g_nilc hR ho hc hp).makes hR
  · rename_i ho
    simp only [Bool.and_eq_true] at hc
    obtain ⟨⟨h1, h2⟩, h3⟩ := hc
    split at h3
    · rename_i e he
      simp only [Bool.and_eq_true] at h3
      exact g_mks hR ho h1 h2 he h3.1.1 h3.1.2 h3.2 hp
    · cases h3
  · rename_i c aop' ho
    unfold chkCall at hc
    split at hc
    · split at hc
      · rename_i y t h1 h2 h3
        simp only [Bool.and_eq_true] at hc
        refine (g_len hR ho h1 h2 h3 ?_ hc.1 hp).makes hR
        have h4 := hc.2
        split at h4
        · rename_i hs; exact .inl ⟨h4, hs⟩
        · rename_i e he; exact .inr ⟨by simpa using h4, _, he⟩
        · cases h4
      · cases hc
    · split at hc
      · rename_i h1; exact (g_mx hR ho h1 hc hp).makes hR
      · cases hc
    · split at hc
      · rename_i h1; exact (g_mn hR ho h1 hc hp).makes hR
      · cases hc
    · exact hp.elim
    · exact hp.elim
    · exact hp.elim
    · exact hp.elim
    · exact hp.elim
    · split at hc
      · rename_i h1 h2
        simp only [Bool.and_eq_true] at hc
        exact (g_ovl hR ho h1 h2 hc.1.1 hc.1.2 hc.2 hp).makes hR
      · cases hc
    · exact hp.elim
    · split at hc
      · rename_i h1 h2
        simp only [Bool.and_eq_true] at hc
        exact (g_cmps hR ho h1 h2 hc.1.1 hc.1.2 hc.2 hp).makes hR
      · cases hc
    · exact hp.elim
    · cases hc
  · exact hp.elim
  · cases hc

theorem below_of_keeps (h : Keeps (fun _ => False) w w') : Below w.heap.size w w' := ⟨h.os, h.tape, h.output, h.size, fun b hb => h.block b hb (fun h => h)⟩

theorem inv_own {O : Nat → Prop} {B sz : Nat} {xs : List AV} {v : Value} {fr : List Nat} (h : Vals w O B pl [.sl (.own sz) xs] [v] fr) : (xs = [] ∧ ∃ A, v = .slice A 0 0 ∧ fr = []) ∨
    ∃ b j cap cs fp1, RowAt w b ((j + cap) * sz) ∧ b < w.heap.size ∧ 0 < sz ∧ (∀ x ∈ xs, (cellsOf x).length = sz) ∧ (∀ x ∈ flat xs, x.one = true) ∧ xs.length ≤ cap ∧ Vals w O B noPl (flat xs) cs fp1 ∧ At w b (j * sz) cs ∧ v = .slice (some ⟨b, j * sz, none⟩) xs.length cap ∧ fr = b :: fp1 := by
  cases h with
  | owe t => cases t; exact .inl ⟨rfl, _, rfl, rfl⟩
  | ow hr hl hz hu ho hn hc ha t => cases t; exact .inr ⟨_, _, _, _, _, hr, hl, hz, hu, ho, hn, hc, ha, rfl, by simp⟩
  | sle hk _ _ => simp [SK.ro] at hk
  | slf hk _ _ _ _ _ _ _ _ _ _ => rcases hk with h | h <;> cases h

theorem ret_sound (hR : RelW E st a w pl fp) {X : Nat → Prop} {r : AV} {v : Value} {fr : List Nat} (hD : chkD E.n i.dst = true) (hv : Vals w' (fun b => X b ∨ b ∈ fr) 0 noPl [r] [v] fr) (hnd : fr.Nodup)
    (hnew : ∀ b ∈ fr, w.heap.size ≤ b ∧ b < w'.heap.size) (hk : Keeps (fun _ => False) w w') (hX : X = Own E st fp ∨ sc r = true) (h : retK i st K r) : ∃ st', K st' ∧ Rel E st' (a.put i.dst v) w' := by
  have hB := below_of_keeps hk
  have hfresh : ∀ b ∈ fr, ¬ Own E st fp b := fun b hb ho => by have := own_lt hR ho; have := (hnew b hb).1; omega
  unfold retK at h
  split at h
  · -- a root
    split at h
    · rename_i sz xs
      obtain ⟨hus, h0, hK⟩ := h
      refine ⟨_, hK, ?_⟩
      rcases inv_own hv with ⟨rfl, A, rfl, rfl⟩ | ⟨b, j, cap, cs, fp1, hr, hl, hz, hu, ho, hn, hc, ha, rfl, rfl⟩
      · have hroot := hR.root hB (r := st.nx + i.k) hus (blk := ⟨sz, false, []⟩) (p := ⟨none, 0, sz, 0⟩) (f := []) (by simp) (by simp) (.emp (j := 0) (by simp [plAdd]) rfl h0)
        exact ⟨_, _, hroot.put (.hdre (j := 0) (sz := sz) (by simp [plAdd]) .nil) _ hD⟩
      · have hO : ∀ b', b' < w'.heap.size → ¬ (X b' ∨ b' ∈ b :: fp1) → X = Own E st fp → ¬ Own E { st with heap := hupd st.heap (st.nx + i.k) (some ⟨sz, false, xs⟩), us := uupd st.us (st.nx + i.k) } (fpAdd fp (st.nx + i.k) (b :: fp1)) b' := by
          intro b' _ hn hX
          rintro (hx | ⟨q, hq, hbq⟩)
          · exact hn (.inl (hX ▸ .inl hx))
          · by_cases hqr : q = st.nx + i.k
            · subst hqr
              simp only [fpAdd, if_true] at hbq
              exact hn (.inr hbq)
            · refine hn (.inl (hX ▸ .inr ⟨q, ?_, ?_⟩))
              · simpa [hupd, hqr] using hq
              · simpa [fpAdd, hqr] using hbq
        have hc' : Vals w' (Own E { st with heap := hupd st.heap (st.nx + i.k) (some ⟨sz, false, xs⟩), us := uupd st.us (st.nx + i.k) } (fpAdd fp (st.nx + i.k) (b :: fp1))) E.w0.heap.size noPl (flat xs) cs fp1 := by
          rcases hX with hX | hX
          · exact hc.shift (fun _ _ _ => rfl) (Nat.le_refl _) (fun b' hb' hn => hO b' hb' hn hX) noPl (fun _ _ h => h)
          · exact sc_shift hc (scs_flat (by simpa [sc] using hX)) _
        have hroot := hR.root hB (r := st.nx + i.k) hus (blk := ⟨sz, false, xs⟩) (p := ⟨some b, j, sz, cap⟩) (f := b :: fp1) hnew hnd (.blk (b := b) (j := j) (cap := cap) (cs := cs) (by simp [plAdd]) hr hl hz hu ho hn (by simpa using hc') ha)
        refine ⟨_, _, hroot.put ?_ _ hD⟩
        have := Vals.hdr (w := w') (O := Own E { st with heap := hupd st.heap (st.nx + i.k) (some ⟨sz, false, xs⟩), us := uupd st.us (st.nx + i.k) } (fpAdd fp (st.nx + i.k) (b :: fp1))) (B := E.w0.heap.size) (pl := plAdd pl (st.nx + i.k) ⟨some b, j, sz, cap⟩) (r := st.nx + i.k) (off := 0) (len := xs.length) (b := b) (j := j) (sz := sz) (cap := cap) (A := some ⟨b, j * sz, none⟩)
          (by simp [plAdd]) (by omega) (.inl (by simp)) .nil
        simpa using this
    · exact h.elim
  · refine ⟨_, h, ?_⟩
    have hv2 : Vals w' (Own E st fp) E.w0.heap.size noPl [clC r] [v] [] := by
      have goal : ∀ O1, (∀ b, b < w'.heap.size → ¬ O1 b → ¬ Own E st fp b) → Vals w' O1 0 noPl [r] [v] fr → Vals w' (Own E st fp) E.w0.heap.size noPl [clC r] [v] [] := by
        intro O1 hO1 hv1
        have := map_vals (fh := nilF) (fq := nilF) (oh := noF) (oq := noF) (pl0 := noPl) (O' := Own E st fp) (B' := E.w0.heap.size) nilF_one nilF_one (fun _ _ _ _ h => h.elim) (fun _ _ _ _ h => h.elim) hO1 hv1 (.inr rfl) hfresh
        simpa [mapAs, clC] using this
      rcases hX with rfl | hX
      · exact goal _ (fun b _ hn ho => hn (.inl ho)) hv
      · exact goal (Own E st fp) (fun b _ hn => hn) (sc_shift hv (by simp [scs, hX]) noPl)
    exact ⟨_, _, (hR.ext hB).put (hv2.shift (fun _ _ _ => rfl) (Nat.le_refl _) (fun _ _ h => h) pl (fun r p h => by cases h)) _ hD⟩

theorem call_free (hR : RelW E st a w pl fp) {f : Nat} {vs : List AV} {us : List Value} {QQ : AV → Prop} (hd : o.dst = i.dst) (hD : chkD E.n i.dst = true) (hv : Vals w (Own E st fp) E.w0.heap.size pl vs us []) (hb : bodied E.P f = true)
    (hex : (execOp a.eval o).run E.P w = .ok (.enter f us.toArray) w) (hA : ∀ (w : World) (X : Nat → Prop) (us : List Value), (∀ b, X b → b < w.heap.size) → Vals w X 0 noPl (vs.map (fzA st.heap)) us [] → Calls E.P f us.toArray w (Back w X QQ))
    (hm : (okAs noF noF vs ∧ ∀ r, QQ r → retK i st K r) ∨ (okAs (okB st.heap) (okQ st.heap) vs ∧ ∀ r, QQ r → sc r = true ∧ retK i st K r)) : o.wp E.P a w (fun a' w' => ∃ st', K st' ∧ Rel E st' a' w') Q := by
  unfold Oper.wp
  rw [hex, Oper.upon_enter]
  rcases hm with ⟨hok, hK⟩ | ⟨hok, hK⟩
  · refine Calls.mono (hA w (Own E st fp) us (fun b hb => own_lt hR hb) (args_apart hR 0 hv hok)) fun e w' he => ?_
    cases e with
    | returned v =>
      obtain ⟨r, fr, h1, h2, h3, h4, h5⟩ := he
      rw [hd]
      exact ret_sound hR hD h2 h3 h4 h5 (.inl rfl) (hK r h1)
    | panicked c => exact he.elim
    | outgrown => exact he.elim
  · refine Calls.mono (hA w noO us (fun b hb => hb.elim) (args_frozen hR 0 hv hok)) fun e w' he => ?_
    cases e with
    | returned v =>
      obtain ⟨r, fr, h1, h2, h3, h4, h5⟩ := he
      rw [hd]
      exact ret_sound hR hD h2 h3 h4 h5 (.inr (hK r h1).1) (hK r h1).2
    | panicked c => exact he.elim
    | outgrown => exact he.elim

theorem call_sound (hR : RelW E st a w pl fp) {f : Nat} {vs : List AV} {us : List Value} (hd : o.dst = i.dst) (hD : chkD E.n i.dst = true) (hv : Vals w (Own E st fp) E.w0.heap.size pl vs us [])
    (hex : bodied E.P f = true → (execOp a.eval o).run E.P w = .ok (.enter f us.toArray) w) (h : evCall E.P i st K f vs) : o.wp E.P a w (fun a' w' => ∃ st', K st' ∧ Rel E st' a' w') Q := by
  rcases h with h | ⟨H0, N, QQ, hB, h2, h3, h4⟩
  · obtain ⟨QQ, ⟨hb, hA⟩, hm⟩ := h
    exact call_free hR hd hD hv hb (hex hb) hA hm
  · unfold Oper.wp
    rw [hex hB.1, Oper.upon_enter]
    refine Calls.mono (share_sound hR hB hv h2 h3) fun e w' he => ?_
    cases e with
    | returned v =>
      obtain ⟨H1, n', r, pl', fp', h5, h6, h7⟩ := he
      rw [hd]
      exact ⟨_, h4 H1 n' r h5, _, _, h6.put h7 _ hD⟩
    | panicked c => exact he.elim
    | outgrown => exact he.elim
end
end Go.Amb

set_option linter.unusedSimpArgs false
set_option linter.unusedVariables false
namespace Go.Amb
open Go Go.RowKit

/-- What a guard asks: it holds. -/
def gcond (st : St) (s : Nat) (b : Bool) : Bool :=
  match st.tmp s with
  | .grd g v => g && (boolOf v == b)
  | v => boolOf v == b
def gok (st : St) (s : Nat) : Prop :=
  match st.tmp s with
  | .grd g v => g = true → isBool v = true
  | v => isBool v = true
/-- Operations that leave all else alone. -/
def AOp.quiet : AOp → Bool
  | .app .. | .store .. | .eqz .. | .call .. | .callv .. | .alloc .. | .box .. | .mks .. | .s2b .. | .off | .clr .. | .slm .. | .cpy .. | .cap .. | .apz .. => false
  | _ => true
def ev1 (P : Program) (i : AI) (st : St) (K : St → Prop) : Prop :=
  match i.g with
  | none => evOp P i st K
  | some (s, b) => gok st s ∧
    if i.op.quiet then (gcond st s b = true → pop st i.k i.op) ∧ K (st.put i.dst (.grd (gcond st s b) (vop st i.k i.op)))
    else (gcond st s b = true → evOp P i st K) ∧ (gcond st s b = false → K (st.put i.dst (.grd false .undef)))
/-- An operation under a guard that does not hold. -/
def evSkip (i : AI) (st : St) (K : St → Prop) : Prop :=
  match i.g with
  | none => False
  | some (s, b) => gok st s ∧ gcond st s b = false ∧ K (st.put i.dst (.grd false .undef))
def evIs (P : Program) : List AI → St → (St → Prop) → Prop
  | [], st, K => K st
  | i :: is, st, K => ev1 P i st (fun st' => evIs P is st' K) ∨ evSkip i st (fun st' => evIs P is st' K)

section
variable {E : Env} {st : St} {a : Act} {w w' : World} {pl pl' : Pls} {fp : Nat → List Nat} {o : Oper} {k : Nat} {i : AI} {K : St → Prop} {Q : Exit → Act → World → Prop}

theorem run_callFunc {P : Program} {f : Nat} {args : Array Value} (hb : bodied P f = true) (w : World) : (callFunc f args).run P w = .ok (.enter f args) w := by
  unfold bodied at hb
  split at hb
  · rename_i fn hf
    simp only [Bool.and_eq_true, bne_iff_ne, ne_eq] at hb
    have h1 : (fn.name == "runtime.NumGoroutine") = false := by simpa using hb.2
    have h2 : fn.body.isNone = false := by cases h : fn.body <;> simp_all
    simp only [callFunc, Sem.run_bind, run_program, Result.andThen_ok, hf, h1, h2, Bool.false_eq_true, if_false, Sem.run_pure]
  · cases hb

theorem execOp_callv {c : Call} {g f : Nat} {caps : Array Value} (ho : o.op = .call c) (hc : c.callee = .value (.tmp g)) (hg : a.eval (.tmp g) = .func (.func f) #[] caps) :
    execOp a.eval o = callFunc f (c.args.map a.eval ++ caps) := by
  simp only [execOp, ho, resolve, hc, hg, Deferred.ofValue]
  show callFunc f ((#[] ++ c.args.map a.eval) ++ caps) = _
  simp
theorem execOp_callm {c : Call} {g f : Nat} {bnd : Array Value} (ho : o.op = .call c) (hc : c.callee = .value (.tmp g)) (hg : a.eval (.tmp g) = .func (.func f) bnd #[]) :
    execOp a.eval o = callFunc f (bnd ++ c.args.map a.eval) := by
  simp only [execOp, ho, resolve, hc, hg, Deferred.ofValue]
  show callFunc f ((bnd ++ c.args.map a.eval) ++ #[]) = _
  simp
theorem execOp_callf {c : Call} {f : Nat} (ho : o.op = .call c) (hc : c.callee = .value (.func f)) : execOp a.eval o = callFunc f (c.args.map a.eval) := by
  simp only [execOp, ho, resolve, hc, Deferred.ofValue]
  show callFunc f ((#[] ++ c.args.map a.eval) ++ #[]) = _
  simp

theorem run_eqz {P : Program} {t e : TypeId} (ht : P.underlying t = some (.slice e)) (A : Option Addr) (n c : Nat) (w : World) :
    (binOp .eql t (.slice A n c) (.slice none 0 0)).run P w = .ok (.bool A.isNone) w ∧ (binOp .neq t (.slice A n c) (.slice none 0 0)).run P w = .ok (.bool (!A.isNone)) w := by
  have h : ∀ d, (Op.equalIn (d + 1) t (.slice A n c) (.slice none 0 0)).run P w = .ok A.isNone w := by
    intro d
    cases A <;> simp [Op.equalIn, run_underlying ht]
  have h' : (Op.equal t (.slice A n c) (.slice none 0 0)).run P w = .ok A.isNone w := h 9999
  constructor <;> simp [binOp, h']

theorem slice_some {O : Nat → Prop} {B : Nat} {v : AV} {u : Value} (hv : Vals w O B pl [v] [u] []) (hs : isSl v = true) : ∃ A n c, u = .slice A n c ∧ (0 < lenOf v → A.isNone = false) := by
  cases v <;> simp [isSl] at hs
  · rename_i K xs
    have key : ∀ (vs : List AV) (us : List Value) (f : List Nat), Vals w O B pl vs us f → vs = [.sl K xs] → us = [u] → ∃ A n c, u = .slice A n c ∧ (0 < lenOf (.sl K xs) → A.isNone = false) := by
      intro vs us f hv
      cases hv <;> intro e1 e2 <;> first | (cases e1; done) | skip
      all_goals (injection e1 with e1 _; injection e2 with e2 _; first | (cases e1; done) | skip)
      all_goals (injection e1; subst e2; subst_vars)
      · exact ⟨_, _, _, rfl, by simp [lenOf]⟩
      · exact ⟨_, _, _, rfl, by simp⟩
      · exact ⟨_, _, _, rfl, by simp⟩
      · exact ⟨_, _, _, rfl, by simp [lenOf]⟩
      · exact ⟨_, _, _, rfl, by simp⟩
    exact key _ _ _ hv rfl rfl
  · cases hv with
    | hdr h hn hA t =>
      cases t
      refine ⟨_, _, _, rfl, fun hl => ?_⟩
      rcases hA with rfl | hA
      · rfl
      · simp [lenOf] at hl; omega
    | hdre h t => cases t; exact ⟨_, _, _, rfl, by simp [lenOf]⟩

theorem chk_call {P : Program} {op : Op} {aop : AOp} (h : chkOp P op aop = true) (ha : (∃ f args, aop = .call f args) ∨ (∃ x args, aop = .callv x args) ∨ (∃ sz bytes s x, aop = .app sz bytes s x) ∨ ∃ sz ag z x, aop = .clr sz ag z x) : ∃ c, op = .call c ∧ chkCall P c aop = true := by
  rcases ha with ⟨f, args, rfl⟩ | ⟨x, args, rfl⟩ | ⟨sz, bytes, s, x, rfl⟩ | ⟨sz, ag, z, x, rfl⟩ <;> cases op <;> first | exact ⟨_, rfl, h⟩ | (simp [chkOp] at h; done)
theorem chk_call2 {P : Program} {op : Op} {aop : AOp} (h : chkOp P op aop = true) (ha : (∃ sz d x, aop = .cpy sz d x) ∨ (∃ sz x, aop = .cap sz x) ∨ (∃ sz bytes ag z s x d, aop = .apz sz bytes ag z s x d)) : ∃ c, op = .call c ∧ chkCall P c aop = true := by
  rcases ha with ⟨sz, d, x, rfl⟩ | ⟨sz, x, rfl⟩ | ⟨sz, bytes, ag, z, s, x, d, rfl⟩ <;> cases op <;> first | exact ⟨_, rfl, h⟩ | (simp [chkOp] at h; done)
theorem chk_store {P : Program} {op : Op} {n : Nat} {ag : Bool} {A x : AOpr} (h : chkOp P op (.store n ag A x) = true) : ∃ t b y, op = .store t b y ∧ chkX b A = true ∧ chkX y x = true ∧ szIs P t n = true ∧ aggIs P t ag = true := by
  cases op <;> first | (simp only [chkOp, Bool.and_eq_true] at h; exact ⟨_, _, _, rfl, h.1.1.1, h.1.1.2, h.1.2, h.2⟩) | (simp [chkOp, chkCall] at h; done)
theorem chk_slm {P : Program} {op : Op} {x l h m : AOpr} (hc : chkOp P op (.slm x l h m) = true) : ∃ t y l' h' m', op = .slice t y (some l') (some h') (some m') ∧ chkX y x = true ∧ chkX l' l = true ∧ chkX h' h = true ∧ chkX m' m = true ∧ ∃ e, elemIs P t = some e ∧ (P.info? e).isSome = true := by
  cases op <;> first | (simp [chkOp, chkCall] at hc; done) | skip
  rename_i t y lo hi mx
  cases lo <;> cases hi <;> cases mx <;> first | (simp [chkOp] at hc; done) | skip
  simp only [chkOp, Bool.and_eq_true] at hc
  obtain ⟨⟨⟨⟨c1, c2⟩, c3⟩, c4⟩, c5⟩ := hc
  cases he : elemIs P t with
  | none => simp [he] at c5
  | some e => exact ⟨_, _, _, _, _, rfl, c1, c2, c3, c4, e, he, by simpa [he] using c5⟩
theorem chk_eqz {P : Program} {op : Op} {ng : Bool} {x : AOpr} (h : chkOp P op (.eqz ng x) = true) : ∃ op' t y z t', op = .binOp op' t y z t' ∧ (op' = if ng then .neq else .eql) ∧ (elemIs P t).isSome = true ∧ z = .const (.slice none 0 0) ∧ chkX y x = true := by
  cases op <;> first | (simp [chkOp, chkCall] at h; done) | skip
  simp only [chkOp, Bool.and_eq_true, decide_eq_true_eq] at h
  refine ⟨_, _, _, _, _, rfl, h.1.1.1, h.1.1.2, ?_, h.2⟩
  have h2 := h.1.2
  split at h2
  · rfl
  · cases h2

theorem evOp_sound (hc : chkOp E.P o.op i.op = true) (hd : o.dst = i.dst) (hD : chkD E.n i.dst = true) (hR : Rel E st a w) (h : evOp E.P i st K) :
    o.wp E.P a w (fun a' w' => ∃ st', K st' ∧ Rel E st' a' w') Q := by
  obtain ⟨pl, fp, hR⟩ := hR
  have quiet : pop st i.k i.op ∧ K ((st.make i.k (rop st i.op)).put i.dst (vop st i.k i.op)) → o.wp E.P a w (fun a' w' => ∃ st', K st' ∧ Rel E st' a' w') Q := by
    rintro ⟨hp, hK⟩
    obtain ⟨u, w', pl', fp', hr, hR', hv⟩ := vops_sound (k := i.k) hc hR hp
    unfold Oper.wp
    rw [hr, Oper.upon_value, hd]
    exact ⟨_, hK, _, _, hR'.put hv _ hD⟩
  unfold evOp at h
  split at h
  · rename_i sz bytes s x hop
    rw [hop] at hc
    obtain ⟨h1, h2, h3⟩ := h
    obtain ⟨c, ho, hc⟩ := chk_call hc (.inr (.inr (.inl ⟨_, _, _, _, rfl⟩)))
    simp only [chkCall] at hc
    split at hc
    · rename_i y z t u hcal hargs htys
      simp only [Bool.and_eq_true] at hc
      obtain ⟨⟨⟨c1, c2⟩, c3⟩, c4⟩ := hc
      split at c3
      · rename_i e he
        simp only [Bool.and_eq_true, decide_eq_true_eq] at c3
        obtain ⟨⟨⟨c5, c6⟩, c7⟩, c8⟩ := c3
        have hu : (∃ e', E.P.underlying u = some (.slice e')) ∨ E.P.underlying u = some .string := by
          split at c4
          · exact .inl ⟨_, by assumption⟩
          · exact .inr (by assumption)
          · cases c4
        rcases h3 with ⟨h3, hK⟩ | ⟨h3, hK⟩
        · obtain ⟨v, w', pl', fp', hr, hR', hv⟩ := g_app (k := i.k) hR ho hcal hargs htys c1 c2 he c5 c6 c7 c8 hu h1 h2 h3
          unfold Oper.wp
          rw [hr, Oper.upon_value, hd]
          exact ⟨_, hK, _, _, hR'.put hv _ hD⟩
        · obtain ⟨v, w', pl', fp', hr, hR', hv⟩ := g_into hR ho hcal hargs htys c1 c2 he c5 c7 hu h1 h2 h3
          unfold Oper.wp
          rw [hr, Oper.upon_value, hd]
          exact ⟨_, hK, _, _, hR'.put hv _ hD⟩
      · cases c3
    · cases hc
  · rename_i x l h m hop
    rw [hop] at hc
    obtain ⟨h1, hK⟩ := h
    obtain ⟨t, y, l', h', m', ho, c1, c2, c3, c4, e, he, hi⟩ := chk_slm hc
    obtain ⟨u, hr⟩ := g_slm hR ho c1 c2 c3 c4 he hi h1
    unfold Oper.wp
    rw [hr, Oper.upon_value, hd]
    exact ⟨_, hK, _, _, hR.skip _ hD _⟩
  · rename_i sz ag z x hop
    rw [hop] at hc
    obtain ⟨h1, h2, hK⟩ := h
    obtain ⟨c, ho, hc⟩ := chk_call hc (.inr (.inr (.inr ⟨_, _, _, _, rfl⟩)))
    simp only [chkCall] at hc
    split at hc
    · rename_i y t hcal hargs htys
      simp only [Bool.and_eq_true] at hc
      obtain ⟨c1, c2⟩ := hc
      split at c2
      · rename_i e he
        simp only [Bool.and_eq_true, decide_eq_true_eq] at c2
        obtain ⟨⟨c3, c4⟩, c5⟩ := c2
        obtain ⟨w', fp', hr, hR'⟩ := g_clr hR ho hcal hargs htys c1 he c3 c4 c5 h1 h2
        unfold Oper.wp
        rw [hr, Oper.upon_value, hd]
        exact ⟨_, hK, _, _, hR'.put (.tup .nil .nil) _ hD⟩
      · cases c2
    · cases hc
  · rename_i sz d x hop
    rw [hop] at hc
    obtain ⟨h1, h2, h3, hK⟩ := h
    obtain ⟨c, ho, hc⟩ := chk_call2 hc (.inl ⟨_, _, _, rfl⟩)
    simp only [chkCall] at hc
    split at hc
    · rename_i y z t hcal hargs htys
      simp only [Bool.and_eq_true] at hc
      obtain ⟨⟨c1, c2⟩, c3⟩ := hc
      split at c3
      · rename_i e he
        obtain ⟨w', fp', hr, hR'⟩ := g_cpy hR ho hcal hargs htys c1 c2 he c3 h1 h2 h3
        unfold Oper.wp
        rw [hr, Oper.upon_value, hd]
        exact ⟨_, hK, _, _, hR'.put (.int .nil) _ hD⟩
      · cases c3
    · cases hc
  · rename_i sz x hop
    rw [hop] at hc
    obtain ⟨h1, h2, hK⟩ := h
    obtain ⟨c, ho, hc⟩ := chk_call2 hc (.inr (.inl ⟨_, _, rfl⟩))
    simp only [chkCall] at hc
    split at hc
    · rename_i y t hcal hargs htys
      simp only [Bool.and_eq_true] at hc
      obtain ⟨c1, c2⟩ := hc
      obtain ⟨e, he⟩ := Option.isSome_iff_exists.1 c2
      obtain ⟨q, fp', hq, hr, hR', hv⟩ := g_cap hR ho hcal hargs htys c1 he h1 h2
      unfold Oper.wp
      rw [hr, Oper.upon_value, hd]
      exact ⟨_, hK q hq, _, _, hR'.put hv _ hD⟩
    · cases hc
  · rename_i sz bytes ag z s x d hop
    rw [hop] at hc
    obtain ⟨h1, h2, h3, hK⟩ := h
    obtain ⟨c, ho, hc⟩ := chk_call2 hc (.inr (.inr ⟨_, _, _, _, _, _, _, rfl⟩))
    simp only [chkCall] at hc
    split at hc
    · rename_i y v t u hcal hargs htys
      simp only [Bool.and_eq_true] at hc
      obtain ⟨⟨⟨c1, c2⟩, c3⟩, c4⟩ := hc
      split at c3
      · rename_i e he
        simp only [Bool.and_eq_true, decide_eq_true_eq] at c3
        obtain ⟨⟨⟨⟨c5, c6⟩, c7⟩, c8⟩, c9⟩ := c3
        split at c4
        · rename_i kk hu
          obtain ⟨v, w', pl', fp', hr, hR', hv⟩ := g_apz (k := i.k) hR ho hcal hargs htys c1 c2 he c5 c6 c7 c8 c9 hu h1 h2 h3
          unfold Oper.wp
          rw [hr, Oper.upon_value, hd]
          exact ⟨_, hK, _, _, hR'.put hv _ hD⟩
        · cases c4
      · cases c3
    · cases hc
  · rename_i n ag A x hop
    rw [hop] at hc
    obtain ⟨h1, h2, h3, hK⟩ := h
    obtain ⟨t, b, y, ho, c1, c2, c3, c4⟩ := chk_store hc
    obtain ⟨w', pl', fp', hr, hR'⟩ := g_store hR ho c1 c2 c3 c4 h1 h2 h3
    unfold Oper.wp
    rw [hr, Oper.upon_skip, hd]
    exact ⟨_, hK, _, _, hR'.skip _ hD _⟩
  · rename_i ng x hop
    rw [hop] at hc
    obtain ⟨h1, h2, hK⟩ := h
    obtain ⟨op', t, y, z, t', ho, he, hel, rfl, hx⟩ := chk_eqz hc
    obtain ⟨e, hel⟩ := Option.isSome_iff_exists.1 hel
    obtain ⟨A, n, c, hu, hl⟩ := slice_some (opr_sound hR hx h1) h2
    have hg : (eqGuard op' t y (.const (.slice none 0 0)) (.slice A n c) (.slice none 0 0)).run E.P w = .ok () w := eqGuard_not (.inl (by simp)) (by simp) _ _
    have hz := run_eqz (elemIs_eq hel) A n c w
    have hr : (execOp a.eval o).run E.P w = .ok (.value (.bool (if ng then !A.isNone else A.isNone))) w := by
      have hcst : a.eval (.const (.slice none 0 0)) = .slice none 0 0 := rfl
      cases ng
      · simp only [Bool.false_eq_true, if_false] at he; subst he
        simp [execOp, ho, hu, hcst, hg, hz.1]
      · simp only [if_true] at he; subst he
        simp [execOp, ho, hu, hcst, hg, hz.2]
    unfold Oper.wp
    rw [hr, Oper.upon_value, hd]
    exact ⟨_, hK _ hl, _, _, hR.put (.bool .nil) _ hD⟩
  · rename_i f args hop
    rw [hop] at hc
    obtain ⟨h1, h2⟩ := h
    obtain ⟨c, ho, hc⟩ := chk_call hc (.inl ⟨_, _, rfl⟩)
    simp only [chkCall] at hc
    split at hc
    · rename_i g hcal
      simp only [Bool.and_eq_true, decide_eq_true_eq] at hc
      obtain ⟨⟨rfl, c1⟩, c2⟩ := hc
      have hv := oprs_sound hR _ _ c1 h1
      refine call_sound hR hd hD hv (fun hb => ?_) h2
      rw [execOp_callf ho hcal, show c.args.map a.eval = (c.args.toList.map a.eval).toArray by apply Array.ext'; simp]
      exact run_callFunc hb w
    · cases hc
  · rename_i x args hop
    rw [hop] at hc
    obtain ⟨h1, h2, h3⟩ := h
    obtain ⟨c, ho, hc⟩ := chk_call hc (.inr (.inl ⟨_, _, rfl⟩))
    simp only [chkCall] at hc
    split at hc
    · rename_i g hcal
      simp only [Bool.and_eq_true] at hc
      have hvx := opr_sound hR hc.1 h1
      split at h3
      · rename_i f caps e
        rw [e] at hvx
        obtain ⟨us1, hu1, hcaps⟩ : ∃ us1, a.eval (.tmp g) = .func (.func f) #[] us1.toArray ∧ Vals w (Own E st fp) E.w0.heap.size pl caps us1 [] := by
          generalize a.eval (.tmp g) = u at hvx
          cases hvx with
          | fn hc t => exact ⟨_, rfl, hc⟩
        have hv := (oprs_sound hR _ _ hc.2 h2).append hcaps
        refine call_sound hR hd hD hv (fun hb => ?_) h3
        rw [execOp_callv ho hcal hu1, show c.args.map a.eval ++ us1.toArray = (c.args.toList.map a.eval ++ us1).toArray by apply Array.ext'; simp]
        exact run_callFunc hb w
      · rename_i f bnd e
        rw [e] at hvx
        obtain ⟨us1, hu1, hcaps⟩ : ∃ us1, a.eval (.tmp g) = .func (.func f) us1.toArray #[] ∧ Vals w (Own E st fp) E.w0.heap.size pl bnd us1 [] := by
          generalize a.eval (.tmp g) = u at hvx
          cases hvx with
          | mfn hc t => exact ⟨_, rfl, hc⟩
        have hv := hcaps.append (oprs_sound hR _ _ hc.2 h2)
        refine call_sound hR hd hD hv (fun hb => ?_) h3
        rw [execOp_callm ho hcal hu1, show us1.toArray ++ c.args.map a.eval = (us1 ++ c.args.toList.map a.eval).toArray by apply Array.ext'; simp]
        exact run_callFunc hb w
      · exact h3.elim
    · cases hc
  · exact quiet h
end
end Go.Amb

set_option linter.unusedSimpArgs false
set_option linter.unusedVariables false
namespace Go.Amb
open Go Go.RowKit

section
variable {E : Env} {st : St} {a : Act} {w w' : World} {pl pl' : Pls} {fp : Nat → List Nat} {o : Oper} {k : Nat} {i : AI} {K : St → Prop} {Q : Exit → Act → World → Prop} {ops : Array Oper}

def boolIn : Value → Option Bool
  | .bool b => some b
  | _ => none
theorem yielded_eq {j s : Nat} {u : Value} {tmps : Array Value} (hs : (ops[j]?).bind (·.dst) = some s) (hu : tmps[s]? = some u) : yielded ops tmps j = boolIn u := by
  unfold yielded
  rw [hs]
  simp only [Option.bind_some, hu]
  cases u <;> rfl

theorem guard_sound (hR : RelW E st a w pl fp) {j s : Nat} {b : Bool} (hg : o.guard = some (j, b)) (hs : (ops[j]?).bind (·.dst) = some s) (hk : gok st s) : Region.wanted o (yielded ops a.tmps) = gcond st s b := by
  have hne : st.tmp s ≠ .undef := by
    intro e
    unfold gok at hk
    rw [e] at hk
    simp [isBool] at hk
  obtain ⟨u, hu, hv⟩ := hR.tmps s hne
  unfold Region.wanted
  rw [hg]
  simp only [yielded_eq hs hu]
  unfold gok at hk
  unfold gcond
  revert hk hv
  generalize st.tmp s = T
  intro hk hv
  cases T with
  | grd g v =>
    simp only at hk
    cases hv with
    | grd hc hun t =>
      cases g with
      | true =>
        obtain ⟨c, rfl, rfl⟩ := inv_isBool (hc rfl) (hk rfl)
        simp [boolOf, boolIn]
      | false =>
        rw [hun rfl]
        rfl
  | bool c =>
    obtain ⟨rfl, _⟩ := inv_bool hv
    simp [boolOf, boolIn]
  | _ => simp [isBool] at hk

theorem ev1_sound {j : Nat} (hj : ops[j]? = some o) (hc : chkI E.P E.n ops o i = true) (hR : Rel E st a w) (h : ev1 E.P i st K) : wpOp E.P ops Q j (fun a' w' => ∃ st', K st' ∧ Rel E st' a' w') a w := by
  simp only [chkI, Bool.and_eq_true, beq_iff_eq] at hc
  obtain ⟨⟨⟨hop, hd⟩, hD⟩, hG⟩ := hc
  unfold wpOp
  rw [hj]
  simp only
  unfold ev1 at h
  cases hg : i.g with
  | none =>
    rw [hg] at h hG
    have hog : o.guard = none := by
      cases hx : o.guard with
      | none => rfl
      | some p => rw [hx] at hG; simp [chkG] at hG
    have hw : Region.wanted o (yielded ops a.tmps) = true := by simp [Region.wanted, hog]
    rw [if_pos hw]
    exact .inl (evOp_sound hop hd hD hR h)
  | some p =>
    obtain ⟨s, b⟩ := p
    rw [hg] at h hG
    obtain ⟨hk, h⟩ := h
    obtain ⟨pl, fp, hR⟩ := hR
    obtain ⟨j', hog, hs⟩ : ∃ j', o.guard = some (j', b) ∧ (ops[j']?).bind (·.dst) = some s := by
      cases hx : o.guard with
      | none => rw [hx] at hG; simp [chkG] at hG
      | some q =>
        obtain ⟨j', b'⟩ := q
        rw [hx] at hG
        simp only [chkG, Bool.and_eq_true, beq_iff_eq] at hG
        obtain ⟨rfl, hs⟩ := hG
        exact ⟨j', rfl, hs⟩
    have hw := guard_sound hR hog hs hk
    rw [hw]
    split at h
    · rename_i hq
      obtain ⟨hp, hK⟩ := h
      by_cases hcnd : gcond st s b = true
      · rw [if_pos hcnd]
        obtain ⟨u, w', pl', fp', hr, hR', hv⟩ := vops_sound (k := i.k) hop hR (hp hcnd)
        have hrop : rop st i.op = none := by
          revert hq
          generalize i.op = aop
          intro hq
          cases aop <;> first | rfl | (simp [AOp.quiet] at hq; done)
        rw [hrop] at hR' hv
        refine .inl ?_
        unfold Oper.wp
        rw [hr, Oper.upon_value, hd]
        exact ⟨_, hK, _, _, hR'.putg _ (fun _ => hv) (fun h => by rw [hcnd] at h; cases h) _ hD⟩
      · rw [if_neg hcnd, hd]
        exact ⟨_, hK, _, _, hR.putg _ (fun h => absurd h hcnd) (fun _ => rfl) _ hD⟩
    · by_cases hcnd : gcond st s b = true
      · rw [if_pos hcnd]
        exact .inl (evOp_sound hop hd hD ⟨pl, fp, hR⟩ (h.1 hcnd))
      · rw [if_neg hcnd, hd]
        exact ⟨_, h.2 (by simpa using hcnd), _, _, hR.putg false (fun h => by cases h) (fun _ => rfl) _ hD⟩

theorem evSkip_sound {j : Nat} (hj : ops[j]? = some o) (hc : chkI E.P E.n ops o i = true) (hR : Rel E st a w) (h : evSkip i st K) : wpOp E.P ops Q j (fun a' w' => ∃ st', K st' ∧ Rel E st' a' w') a w := by
  simp only [chkI, Bool.and_eq_true, beq_iff_eq] at hc
  obtain ⟨⟨⟨hop, hd⟩, hD⟩, hG⟩ := hc
  unfold wpOp
  rw [hj]
  simp only
  unfold evSkip at h
  cases hg : i.g with
  | none => rw [hg] at h; exact h.elim
  | some p =>
    obtain ⟨s, b⟩ := p
    rw [hg] at h hG
    obtain ⟨hk, hcf, hK⟩ := h
    obtain ⟨pl, fp, hR⟩ := hR
    obtain ⟨j', hog, hs⟩ : ∃ j', o.guard = some (j', b) ∧ (ops[j']?).bind (·.dst) = some s := by
      cases hx : o.guard with
      | none => rw [hx] at hG; simp [chkG] at hG
      | some q =>
        obtain ⟨j', b'⟩ := q
        rw [hx] at hG
        simp only [chkG, Bool.and_eq_true, beq_iff_eq] at hG
        obtain ⟨rfl, hs⟩ := hG
        exact ⟨j', rfl, hs⟩
    rw [guard_sound hR hog hs hk, if_neg (by simp [hcf]), hd]
    exact ⟨_, hK, _, _, hR.putg false (fun h => by cases h) (fun _ => rfl) _ hD⟩

theorem evIs_sound' : ∀ (os : List Oper) (is : List AI) (n : Nat) (st : St) (a : Act) (w : World), chkIs E.P E.n ops os is = true → (∀ m o, os[m]? = some o → ops[n + m]? = some o) → Rel E st a w → evIs E.P is st K →
    (∀ st' a' w', K st' → Rel E st' a' w' → Q .normal a' w') → wpOps E.P ops Q ((List.range os.length).map (n + ·)) a w
  | [], [], n, st, a, w, _, _, hR, h, hq => hq _ _ _ h hR
  | o :: os, i :: is, n, st, a, w, hc, ho, hR, h, hq => by
    simp only [chkIs, Bool.and_eq_true] at hc
    rw [List.length_cons, List.range_succ_eq_map, List.map_cons, List.map_map, wpOps_cons]
    have h1 := h.elim (fun h => ev1_sound (Q := Q) (j := n + 0) (ho 0 o rfl) hc.1 hR h) (fun h => evSkip_sound (Q := Q) (j := n + 0) (ho 0 o rfl) hc.1 hR h)
    refine wpOp_mono (fun a' w' hk => ?_) h1
    obtain ⟨st', h2, hR'⟩ := hk
    have := evIs_sound' os is (n + 1) st' a' w' hc.2 (fun m o' hm => by have := ho (m + 1) o' (by simpa using hm); rw [show n + 1 + m = n + (m + 1) by omega]; exact this) hR' h2 hq
    have e : ((fun x => n + x) ∘ Nat.succ) = fun x => (n + 1) + x := by funext x; simp only [Function.comp]; omega
    rw [e]
    exact this
  | [], _ :: _, _, _, _, _, hc, _, _, _, _ => by simp [chkIs] at hc
  | _ :: _, [], _, _, _, _, hc, _, _, _, _ => by simp [chkIs] at hc

theorem region_sound {id : Nat} {is : List AI} (hc : chkIs E.P E.n ops ops.toList is = true) (hR : Rel E st a w) (h : evIs E.P is st K) (hq : ∀ st' a' w', K st' → Rel E st' a' w' → Q .normal a' w') :
    (Code.region id ops false).wp E.P Q a w := by
  refine wp_region ?_
  have := evIs_sound' (Q := Q) (K := K) ops.toList is 0 st a w hc (fun m o hm => by simpa using hm) hR h hq
  simpa using this
end
end Go.Amb

set_option linter.unusedSimpArgs false
set_option linter.unusedVariables false
namespace Go.Amb
open Go Go.RowKit

def AOpr.slots : AOpr → List Nat
  | .t n => [n]
  | .c _ => []
def oslots : Option AOpr → List Nat
  | some x => x.slots
  | none => []
def AOp.slots : AOp → List Nat
  | .mov x | .eqn _ _ x | .eqz _ x | .neg x | .not x | .com x | .box _ _ x | .load _ _ x | .fad _ x | .fld _ _ _ x | .len _ x | .conv _ x | .b2s x | .s2b x | .ext x _ | .nilc x | .mks _ _ _ _ x | .clr _ _ _ x | .cap _ x => x.slots
  | .pick c a b => c.slots ++ (a.slots ++ b.slots)
  | .bin _ x y | .eqb _ x y | .eqs _ _ x y | .store _ _ x y | .iad _ x y | .sidx x y | .app _ _ x y | .cmps x y | .cpy _ x y | .ovl x y => x.slots ++ y.slots
  | .alloc .. | .off => []
  | .apz _ _ _ _ s x d => s.slots ++ (x.slots ++ [d])
  | .build _ ps => ps.flatMap fun p => p.2.2.slots
  | .bsl _ _ _ _ ps => ps.flatMap fun p => p.2.slots
  | .slice _ x l h m => x.slots ++ (oslots l ++ (oslots h ++ oslots m))
  | .sslice x l h => x.slots ++ (oslots l ++ oslots h)
  | .slm x l h m => x.slots ++ (l.slots ++ (h.slots ++ m.slots))
  | .mx l | .mn l => l.flatMap AOpr.slots
  | .call _ args => args.flatMap AOpr.slots
  | .callv x args => x.slots ++ args.flatMap AOpr.slots
  | .mkf _ caps => caps.flatMap AOpr.slots
  | .mkm _ caps => caps.flatMap AOpr.slots
def AI.looks (i : AI) : List Nat := i.op.slots ++ (match i.g with | some (s, _) => [s] | none => [])
/-- Reads memory. -/
def AOp.reads : AOp → Bool
  | .load .. | .iad .. | .slice .. | .b2s .. | .ovl .. => true
  | _ => false

section
variable {st : St} {d : Nat} {v : AV} {k : Nat}
theorem val_put {x : AOpr} (h : d ∉ x.slots) : (st.put (some d) v).val x = st.val x := by
  cases x with
  | t n => simp only [AOpr.slots, List.mem_singleton] at h; simp [St.val, St.put, tupd, Ne.symm h]
  | c c => rfl
theorem ok_put {x : AOpr} (h : d ∉ x.slots) : (st.put (some d) v).ok x = st.ok x := by
  cases x with
  | t n => simp only [AOpr.slots, List.mem_singleton] at h; simp [St.ok, St.put, tupd, Ne.symm h]
  | c c => rfl
theorem map_put {l : List AOpr} (h : d ∉ l.flatMap AOpr.slots) : l.map (st.put (some d) v).val = l.map st.val := by
  refine List.map_congr_left fun x hx => val_put fun hd => h (List.mem_flatMap.2 ⟨x, hx, hd⟩)
theorem all_put {l : List AOpr} (h : d ∉ l.flatMap AOpr.slots) : (∀ x ∈ l, (st.put (some d) v).ok x) ↔ ∀ x ∈ l, st.ok x := by
  refine forall_congr' fun x => forall_congr' fun hx => ?_
  rw [ok_put fun hd => h (List.mem_flatMap.2 ⟨x, hx, hd⟩)]
theorem lo_put {x : Option AOpr} (h : d ∉ oslots x) : lo' (st.put (some d) v) x = lo' st x := by
  cases x with
  | none => rfl
  | some x => simp only [lo', val_put h]
theorem hi_put {x : Option AOpr} {n : Nat} (h : d ∉ oslots x) : hi' (st.put (some d) v) n x = hi' st n x := by
  cases x with
  | none => rfl
  | some x => simp only [hi', val_put h]
theorem bound_put {x : Option AOpr} {m n : Nat} (h : d ∉ oslots x) : boundOk (st.put (some d) v) m n x = boundOk st m n x := by
  cases x with
  | none => rfl
  | some x => simp only [boundOk, val_put h, ok_put h]
theorem blk_put {dd : Option Nat} {r : Nat} : (st.put dd v).blk r = st.blk r := by cases dd <;> rfl
theorem heap_put {dd : Option Nat} : (st.put dd v).heap = st.heap := by cases dd <;> rfl
theorem us_put {dd : Option Nat} : (st.put dd v).us = st.us := by cases dd <;> rfl
theorem nx_put {dd : Option Nat} : (st.put dd v).nx = st.nx := by cases dd <;> rfl
theorem there_put {dd : Option Nat} {A : AV} : (st.put dd v).there A = st.there A := by cases dd <;> cases A <;> rfl
theorem thereOk_put {dd : Option Nat} {A : AV} {n : Nat} : (st.put dd v).thereOk n A = st.thereOk n A := by cases dd <;> cases A <;> rfl

theorem vop_put {op : AOp} (h : d ∉ op.slots) : vop (st.put (some d) v) k op = vop st k op := by
  cases op <;> simp only [AOp.slots, List.mem_append, not_or] at h <;> simp only [vop, blk_put, there_put, nx_put]
  case mov => rw [val_put h]
  case eqn => rw [val_put h]
  case neg => rw [val_put h]
  case not => rw [val_put h]
  case com => rw [val_put h]
  case load => rw [val_put h]
  case fad => rw [val_put h]
  case fld => rw [val_put h]
  case len => rw [val_put h]
  case conv => rw [val_put h]
  case b2s => rw [val_put h]
  case s2b => rw [val_put h]
  case ext => rw [val_put h]
  case nilc => rw [val_put h]
  case pick => rw [val_put h.1, val_put h.2.1, val_put h.2.2]
  case bin => rw [val_put h.1, val_put h.2]
  case eqb => rw [val_put h.1, val_put h.2]
  case eqs => rw [val_put h.1, val_put h.2]
  case iad => rw [val_put h.1, val_put h.2]
  case sidx => rw [val_put h.1, val_put h.2]
  case cmps => rw [val_put h.1, val_put h.2]
  case mks => rw [val_put h]
  case slice => rw [val_put h.1, lo_put h.2.1]; simp only [hi_put h.2.2.1]
  case sslice => rw [val_put h.1, lo_put h.2.1]; simp only [hi_put h.2.2]
  case mx => rw [map_put h]
  case mn => rw [map_put h]
  case mkf => rw [map_put h]
  case mkm => rw [map_put h]
  case build z ps =>
    congr 2
    refine List.map_congr_left fun p hp => ?_
    obtain ⟨o, n, x⟩ := p
    simp only [val_put (fun hd => h (List.mem_flatMap.2 ⟨_, hp, hd⟩))]
  case bsl sz ag n z ps =>
    congr 2
    refine List.map_congr_left fun p hp => ?_
    obtain ⟨i, x⟩ := p
    simp only [val_put (fun hd => h (List.mem_flatMap.2 ⟨_, hp, hd⟩))]

theorem pop_put {op : AOp} (h : d ∉ op.slots) : pop (st.put (some d) v) k op ↔ pop st k op := by
  cases op <;> simp only [AOp.slots, List.mem_append, not_or] at h <;> simp only [pop, blk_put, there_put, thereOk_put, nx_put, us_put, heap_put]
  case mov => rw [ok_put h]
  case eqn => rw [val_put h, ok_put h]
  case neg => rw [val_put h, ok_put h]
  case not => rw [val_put h, ok_put h]
  case com => rw [val_put h, ok_put h]
  case box => rw [val_put h, ok_put h]
  case load => rw [val_put h, ok_put h]
  case fad => rw [val_put h, ok_put h]
  case fld => rw [val_put h, ok_put h]
  case len => rw [val_put h, ok_put h]
  case conv => rw [val_put h, ok_put h]
  case b2s => rw [val_put h, ok_put h]
  case s2b => rw [val_put h, ok_put h]
  case ext => rw [val_put h, ok_put h]
  case nilc => rw [val_put h, ok_put h]
  case pick => rw [val_put h.1, val_put h.2.1, val_put h.2.2, ok_put h.1, ok_put h.2.1, ok_put h.2.2]
  case bin => rw [val_put h.1, val_put h.2, ok_put h.1, ok_put h.2]
  case eqb => rw [val_put h.1, val_put h.2, ok_put h.1, ok_put h.2]
  case eqs => rw [val_put h.1, val_put h.2, ok_put h.1, ok_put h.2]
  case iad => rw [val_put h.1, val_put h.2, ok_put h.1, ok_put h.2]
  case sidx => rw [val_put h.1, val_put h.2, ok_put h.1, ok_put h.2]
  case cmps => rw [val_put h.1, val_put h.2, ok_put h.1, ok_put h.2]
  case ovl => rw [val_put h.1, val_put h.2, ok_put h.1, ok_put h.2]; try simp only [blk_put, heap_put]
  case mks => rw [val_put h, ok_put h]
  case slice => rw [val_put h.1, ok_put h.1]; simp only [hi_put h.2.2.1, bound_put h.2.1, bound_put h.2.2.1]
  case sslice => rw [val_put h.1, ok_put h.1]; simp only [hi_put h.2.2, bound_put h.2.1, bound_put h.2.2]
  case mx =>
    refine and_congr_left fun _ => forall_congr' fun x => forall_congr' fun hx => ?_
    rw [val_put (fun hd => h (List.mem_flatMap.2 ⟨x, hx, hd⟩)), ok_put (fun hd => h (List.mem_flatMap.2 ⟨x, hx, hd⟩))]
  case mn =>
    refine and_congr_left fun _ => forall_congr' fun x => forall_congr' fun hx => ?_
    rw [val_put (fun hd => h (List.mem_flatMap.2 ⟨x, hx, hd⟩)), ok_put (fun hd => h (List.mem_flatMap.2 ⟨x, hx, hd⟩))]
  case mkf =>
    refine forall_congr' fun x => forall_congr' fun hx => ?_
    rw [val_put (fun hd => h (List.mem_flatMap.2 ⟨x, hx, hd⟩)), ok_put (fun hd => h (List.mem_flatMap.2 ⟨x, hx, hd⟩))]
  case mkm =>
    refine forall_congr' fun x => forall_congr' fun hx => ?_
    rw [val_put (fun hd => h (List.mem_flatMap.2 ⟨x, hx, hd⟩)), ok_put (fun hd => h (List.mem_flatMap.2 ⟨x, hx, hd⟩))]
  case build z ps =>
    refine forall_congr' fun x => forall_congr' fun hx => ?_
    rw [val_put (fun hd => h (List.mem_flatMap.2 ⟨x, hx, hd⟩)), ok_put (fun hd => h (List.mem_flatMap.2 ⟨x, hx, hd⟩))]
  case bsl sz ag n z ps =>
    refine and_congr_right fun _ => and_congr_right fun _ => and_congr_right fun _ => and_congr_left fun _ => forall_congr' fun x => forall_congr' fun hx => ?_
    rw [val_put (fun hd => h (List.mem_flatMap.2 ⟨x, hx, hd⟩)), ok_put (fun hd => h (List.mem_flatMap.2 ⟨x, hx, hd⟩))]

/-- An operation that does not read memory. -/
theorem vop_heap {op : AOp} {h : Nat → Option Blk} {u : Nat → Bool} (hr : op.reads = false) : vop { st with heap := h, us := u } k op = vop st k op := by
  cases op <;> first | (simp [AOp.reads] at hr; done) | rfl
theorem pop_heap {op : AOp} {h : Nat → Option Blk} {u : Nat → Bool} (hr : op.reads = false) (hq : op.quiet = true) : pop { st with heap := h, us := u } k op ↔ pop st k op := by
  cases op <;> first | (simp [AOp.reads, AOp.quiet] at hr hq; done) | exact Iff.rfl
end
end Go.Amb

set_option linter.unusedSimpArgs false
set_option linter.unusedVariables false
namespace Go.Amb
open Go Go.RowKit

/-- A quiet operation: its value, what it asks. -/
def val1 (i : AI) (st : St) : AV :=
  match i.g with
  | none => vop st i.k i.op
  | some (s, b) => .grd (gcond st s b) (vop st i.k i.op)
def ok1 (i : AI) (st : St) : Prop :=
  match i.g with
  | none => pop st i.k i.op
  | some (s, b) => gok st s ∧ (gcond st s b = true → pop st i.k i.op)
/-- All that an operation may turn: its slot, memory. -/
def Reach (j : AI) (st s : St) : Prop := ∃ h u v, s = ({ st with heap := h, us := u } : St).put j.dst v ∧ (j.op.quiet = true → h = st.heap ∧ u = st.us)

section
variable {P : Program} {st : St} {i j : AI} {K K' : St → Prop} {d : Nat} {v : AV}

theorem make_none (k : Nat) : st.make k none = st := rfl
theorem ev1_quiet (hq : i.op.quiet = true) : ev1 P i st K ↔ ok1 i st ∧ K (st.put i.dst (val1 i st)) := by
  have h0 : evOp P i st K ↔ pop st i.k i.op ∧ K (st.put i.dst (vop st i.k i.op)) := by
    unfold evOp
    revert hq
    cases i.op <;> intro hq <;> first | exact Iff.rfl | (simp [AOp.quiet] at hq; done)
  unfold ev1 ok1 val1
  cases hg : i.g with
  | none => exact h0
  | some p =>
    obtain ⟨s, b⟩ := p
    simp only [hq, if_true, and_assoc]

theorem retK_mono (h : ∀ s, K s → K' s) {r : AV} (hr : retK i st K r) : retK i st K' r := by
  unfold retK at *
  split
  · rename_i ha
    rw [if_pos ha] at hr
    split at hr
    · exact ⟨hr.1, hr.2.1, h _ hr.2.2⟩
    · exact hr.elim
  · rename_i ha
    rw [if_neg ha] at hr
    exact h _ hr
theorem evCall_mono (h : ∀ s, K s → K' s) {f : Nat} {vs : List AV} (hr : evCall P i st K f vs) : evCall P i st K' f vs := by
  rcases hr with ⟨Q, h1, h2⟩ | ⟨H0, N, Q, h1, h2, h3, h4⟩
  · exact .inl ⟨Q, h1, h2.imp (fun h2 => ⟨h2.1, fun r hr => retK_mono h (h2.2 r hr)⟩) (fun h2 => ⟨h2.1, fun r hr => ⟨(h2.2 r hr).1, retK_mono h (h2.2 r hr).2⟩⟩)⟩
  · exact .inr ⟨H0, N, Q, h1, h2, h3, fun H1 n' r hq => h _ (h4 H1 n' r hq)⟩
theorem evOp_mono (h : ∀ s, K s → K' s) (hr : evOp P i st K) : evOp P i st K' := by
  unfold evOp at *
  split at hr
  · exact ⟨hr.1, hr.2.1, hr.2.2.imp (fun x => ⟨x.1, h _ x.2⟩) (fun x => ⟨x.1, h _ x.2⟩)⟩
  · exact ⟨hr.1, h _ hr.2⟩
  · exact ⟨hr.1, hr.2.1, h _ hr.2.2⟩
  · exact ⟨hr.1, hr.2.1, hr.2.2.1, h _ hr.2.2.2⟩
  · exact ⟨hr.1, hr.2.1, fun b hb => h _ (hr.2.2 b hb)⟩
  · exact ⟨hr.1, hr.2.1, hr.2.2.1, h _ hr.2.2.2⟩
  · exact ⟨hr.1, hr.2.1, hr.2.2.1, h _ hr.2.2.2⟩
  · exact ⟨hr.1, hr.2.1, fun b hb => h _ (hr.2.2 b hb)⟩
  · exact ⟨hr.1, evCall_mono h hr.2⟩
  · refine ⟨hr.1, hr.2.1, ?_⟩
    have := hr.2.2
    split at this
    · exact evCall_mono h this
    · exact evCall_mono h this
    · exact this.elim
  · exact ⟨hr.1, h _ hr.2⟩
theorem ev1_mono (h : ∀ s, K s → K' s) (hr : ev1 P i st K) : ev1 P i st K' := by
  unfold ev1 at *
  split at hr
  · exact evOp_mono h hr
  · refine ⟨hr.1, ?_⟩
    have h2 := hr.2
    by_cases hq : i.op.quiet = true
    · rw [if_pos hq] at h2 ⊢; exact ⟨h2.1, h _ h2.2⟩
    · rw [if_neg hq] at h2 ⊢; exact ⟨fun hc => evOp_mono h (h2.1 hc), fun hc => h _ (h2.2 hc)⟩

theorem retK_reach (hq : i.op.quiet = false) {r : AV} (hr : retK i st K r) : retK i st (fun s => Reach i st s ∧ K s) r := by
  unfold retK at *
  split
  · rename_i ha
    rw [if_pos ha] at hr
    split at hr
    · exact ⟨hr.1, hr.2.1, ⟨_, _, _, rfl, by simp [hq]⟩, hr.2.2⟩
    · exact hr.elim
  · rename_i ha
    rw [if_neg ha] at hr
    exact ⟨⟨st.heap, st.us, _, rfl, by simp [hq]⟩, hr⟩
theorem evCall_reach (hq : i.op.quiet = false) {f : Nat} {vs : List AV} (hr : evCall P i st K f vs) : evCall P i st (fun s => Reach i st s ∧ K s) f vs := by
  rcases hr with ⟨Q, h1, h2⟩ | ⟨H0, N, Q, h1, h2, h3, h4⟩
  · exact .inl ⟨Q, h1, h2.imp (fun h2 => ⟨h2.1, fun r hr => retK_reach hq (h2.2 r hr)⟩) (fun h2 => ⟨h2.1, fun r hr => ⟨(h2.2 r hr).1, retK_reach hq (h2.2 r hr).2⟩⟩)⟩
  · exact .inr ⟨H0, N, Q, h1, h2, h3, fun H1 n' r hq' => ⟨⟨_, _, _, rfl, by simp [hq]⟩, h4 H1 n' r hq'⟩⟩
theorem storeS_form (A x : AV) : ∃ h u, storeS st A x = { st with heap := h, us := u } := by
  unfold storeS
  split
  · simp only
    split
    · exact ⟨_, _, rfl⟩
    · exact ⟨_, _, rfl⟩
  · exact ⟨st.heap, st.us, rfl⟩
theorem intoS_form (A x : AV) : ∃ h u, intoS st A x = { st with heap := h, us := u } := by
  unfold intoS
  split
  · exact ⟨_, _, rfl⟩
  · exact ⟨st.heap, st.us, rfl⟩
theorem clrS_form (ag : Bool) (z : List CV) (A : AV) : ∃ h u, clrS st ag z A = { st with heap := h, us := u } := by
  unfold clrS
  split
  · exact ⟨_, _, rfl⟩
  · exact ⟨st.heap, st.us, rfl⟩
theorem cpyS_form (D X : AV) : ∃ h u, cpyS st D X = { st with heap := h, us := u } := by
  unfold cpyS
  split
  · exact ⟨_, _, rfl⟩
  · exact ⟨st.heap, st.us, rfl⟩
theorem capS_form (sz : Nat) (D : AV) (q : Nat) : ∃ h u, capS st sz D q = { st with heap := h, us := u } := by
  unfold capS
  split
  · exact ⟨_, _, rfl⟩
  · exact ⟨st.heap, st.us, rfl⟩
theorem evOp_reach (hq : i.op.quiet = false) (hr : evOp P i st K) : evOp P i st (fun s => Reach i st s ∧ K s) := by
  unfold evOp at *
  split at hr
  · rename_i hop
    refine ⟨hr.1, hr.2.1, hr.2.2.imp (fun x => ⟨x.1, ⟨_, _, _, rfl, by simp [hq]⟩, x.2⟩) (fun x => ⟨x.1, ?_, x.2⟩)⟩
    obtain ⟨h, u, e⟩ := intoS_form (st := st) (st.val _) (st.val _)
    exact ⟨h, u, _, by rw [e], by simp [hq]⟩
  · exact ⟨hr.1, ⟨st.heap, st.us, _, rfl, by simp [hq]⟩, hr.2⟩
  · rename_i hop
    refine ⟨hr.1, hr.2.1, ?_, hr.2.2⟩
    obtain ⟨h, u, e⟩ := clrS_form (st := st) _ _ (st.val _)
    exact ⟨h, u, _, by rw [e], by simp [hq]⟩
  · rename_i hop
    refine ⟨hr.1, hr.2.1, hr.2.2.1, ?_, hr.2.2.2⟩
    obtain ⟨h, u, e⟩ := cpyS_form (st := st) (st.val _) (st.val _)
    exact ⟨h, u, _, by rw [e], by simp [hq]⟩
  · rename_i hop
    refine ⟨hr.1, hr.2.1, fun q hql => ⟨?_, hr.2.2 q hql⟩⟩
    obtain ⟨h, u, e⟩ := capS_form (st := st) _ (st.val _) q
    exact ⟨h, u, _, by rw [e], by simp [hq]⟩
  · rename_i hop
    exact ⟨hr.1, hr.2.1, hr.2.2.1, ⟨_, _, _, rfl, by simp [hq]⟩, hr.2.2.2⟩
  · rename_i hop
    refine ⟨hr.1, hr.2.1, hr.2.2.1, ?_, hr.2.2.2⟩
    obtain ⟨h, u, e⟩ := storeS_form (st := st) (st.val _) (st.val _)
    exact ⟨h, u, _, by rw [e], by simp [hq]⟩
  · rename_i hop; exact ⟨hr.1, hr.2.1, fun b hb => ⟨⟨st.heap, st.us, _, rfl, by simp [hq]⟩, hr.2.2 b hb⟩⟩
  · exact ⟨hr.1, evCall_reach hq hr.2⟩
  · refine ⟨hr.1, hr.2.1, ?_⟩
    have := hr.2.2
    split at this
    · exact evCall_reach hq this
    · exact evCall_reach hq this
    · exact this.elim
  · refine ⟨hr.1, ?_, hr.2⟩
    cases hb : rop st i.op with
    | none => exact ⟨st.heap, st.us, _, rfl, by simp [hq]⟩
    | some b => exact ⟨_, _, _, rfl, by simp [hq]⟩
theorem ev1_reach (hr : ev1 P i st K) : ev1 P i st (fun s => Reach i st s ∧ K s) := by
  cases hq : i.op.quiet with
  | true =>
    rw [ev1_quiet hq] at *
    exact ⟨hr.1, ⟨st.heap, st.us, _, rfl, fun _ => ⟨rfl, rfl⟩⟩, hr.2⟩
  | false =>
    unfold ev1 at *
    split at hr
    · exact evOp_reach hq hr
    · refine ⟨hr.1, ?_⟩
      have h2 := hr.2
      have hq' : ¬ i.op.quiet = true := by simp [hq]
      rw [if_neg hq'] at h2 ⊢
      exact ⟨fun hc => evOp_reach hq (h2.1 hc), fun hc => ⟨⟨st.heap, st.us, _, rfl, by simp [hq]⟩, h2.2 hc⟩⟩

/-! ### a slot that it does not look at -/
theorem put_comm' {dd : Option Nat} {x : AV} (h : dd ≠ some d) : (st.put (some d) v).put dd x = (st.put dd x).put (some d) v := by
  cases dd with
  | none => rfl
  | some e =>
    have hne : e ≠ d := fun he => h (he ▸ rfl)
    simp only [St.put]
    congr 1
    funext q
    simp only [tupd]
    by_cases h1 : q = e
    · subst h1; simp [hne]
    · simp [h1]
theorem retK_put (hne : i.dst ≠ some d) {r : AV} (hr : retK i (st.put (some d) v) K r) : retK i st (fun s => K (s.put (some d) v)) r := by
  unfold retK at *
  split
  · rename_i ha
    rw [if_pos ha] at hr
    split at hr
    · refine ⟨hr.1, hr.2.1, ?_⟩
      show K _
      rw [← put_comm' hne]
      exact hr.2.2
    · exact hr.elim
  · rename_i ha
    rw [if_neg ha] at hr
    show K _
    rw [← put_comm' hne]
    exact hr
theorem evCall_put (hne : i.dst ≠ some d) {f : Nat} {vs : List AV} (hr : evCall P i (st.put (some d) v) K f vs) : evCall P i st (fun s => K (s.put (some d) v)) f vs := by
  rcases hr with ⟨Q, h1, h2⟩ | ⟨H0, N, Q, h1, h2, h3, h4⟩
  · exact .inl ⟨Q, h1, h2.imp (fun h2 => ⟨h2.1, fun r hr => retK_put hne (h2.2 r hr)⟩) (fun h2 => ⟨h2.1, fun r hr => ⟨(h2.2 r hr).1, retK_put hne (h2.2 r hr).2⟩⟩)⟩
  · refine .inr ⟨H0, N, Q, h1, h2, h3, fun H1 n' r hq => ?_⟩
    have := h4 H1 n' r hq
    have e : afterS (st.put (some d) v) H0 H1 N n' = (afterS st H0 H1 N n').put (some d) v := rfl
    rw [e, put_comm' hne] at this
    exact this
theorem storeS_put {A x : AV} : storeS (st.put (some d) v) A x = (storeS st A x).put (some d) v := by
  unfold storeS
  split
  · simp only [blk_put]
    split <;> rfl
  · rfl
theorem intoS_put {A x : AV} : intoS (st.put (some d) v) A x = (intoS st A x).put (some d) v := by
  unfold intoS
  split <;> rfl
theorem intoV_put {A x : AV} : intoV (st.put (some d) v) A x = intoV st A x := by
  unfold intoV
  split <;> rfl
theorem clrS_put {ag : Bool} {z : List CV} {A : AV} : clrS (st.put (some d) v) ag z A = (clrS st ag z A).put (some d) v := by
  unfold clrS
  split <;> rfl
theorem cpyS_put {D X : AV} : cpyS (st.put (some d) v) D X = (cpyS st D X).put (some d) v := by
  unfold cpyS
  split <;> rfl
theorem capS_put {sz : Nat} {D : AV} {q : Nat} : capS (st.put (some d) v) sz D q = (capS st sz D q).put (some d) v := by
  unfold capS
  split <;> rfl
theorem rop_put {op : AOp} (h : d ∉ op.slots) : rop (st.put (some d) v) op = rop st op := by
  cases op <;> first | rfl | skip
  all_goals
    simp only [AOp.slots] at h
    simp only [rop, val_put h]
theorem make_put {k : Nat} {b : Option Blk} : (st.put (some d) v).make k b = (st.make k b).put (some d) v := by cases b <;> rfl
theorem evOp_put (hl : d ∉ i.op.slots) (hne : i.dst ≠ some d) (hr : evOp P i (st.put (some d) v) K) : evOp P i st (fun s => K (s.put (some d) v)) := by
  unfold evOp at *
  split at hr
  · rename_i sz bytes s x hop
    rw [hop] at hl
    simp only [AOp.slots, List.mem_append, not_or] at hl
    rw [val_put hl.1, val_put hl.2, ok_put hl.1, ok_put hl.2] at hr
    refine ⟨hr.1, hr.2.1, hr.2.2.imp (fun hr => ⟨hr.1, ?_⟩) (fun hr => ⟨hr.1, ?_⟩)⟩
    rotate_left
    · have h4 := hr.2
      rw [intoS_put, intoV_put, put_comm' hne] at h4
      exact h4
    have h4 := hr.2
    have e1 : appS (st.put (some d) v) i.k sz (st.val s) (st.val x) = (appS st i.k sz (st.val s) (st.val x)).put (some d) v := rfl
    have e2 : appV (st.put (some d) v) i.k (st.val s) (st.val x) = appV st i.k (st.val s) (st.val x) := rfl
    rw [e1, e2, put_comm' hne] at h4
    exact h4
  · rename_i x l h m hop
    rw [hop] at hl
    simp only [AOp.slots, List.mem_append, not_or] at hl
    have e : slmOk (st.put (some d) v) x l h m = slmOk st x l h m := by
      unfold slmOk boundOk Amb.hi'
      simp only [val_put hl.1, val_put hl.2.1, val_put hl.2.2.1, val_put hl.2.2.2, ok_put hl.1, ok_put hl.2.1, ok_put hl.2.2.1, ok_put hl.2.2.2]
      rfl
    rw [e, put_comm' hne] at hr
    exact hr
  · rename_i sz ag z x hop
    rw [hop] at hl
    simp only [AOp.slots] at hl
    rw [val_put hl, ok_put hl] at hr
    refine ⟨hr.1, hr.2.1, ?_⟩
    have h4 := hr.2.2
    rw [clrS_put, put_comm' hne] at h4
    exact h4
  · rename_i sz D X hop
    rw [hop] at hl
    simp only [AOp.slots, List.mem_append, not_or] at hl
    rw [val_put hl.1, val_put hl.2, ok_put hl.1, ok_put hl.2] at hr
    refine ⟨hr.1, hr.2.1, hr.2.2.1, ?_⟩
    have h4 := hr.2.2.2
    rw [cpyS_put, put_comm' hne] at h4
    exact h4
  · rename_i sz x hop
    rw [hop] at hl
    simp only [AOp.slots] at hl
    rw [val_put hl, ok_put hl] at hr
    refine ⟨hr.1, hr.2.1, fun q hq => ?_⟩
    have h4 := hr.2.2 q hq
    rw [capS_put, put_comm' hne] at h4
    exact h4
  · rename_i sz bytes ag z s x dd hop
    rw [hop] at hl
    simp only [AOp.slots, List.mem_append, List.mem_singleton, not_or] at hl
    have e0 : (st.put (some d) v).tmp dd = st.tmp dd := by simp [St.put, tupd, Ne.symm hl.2.2]
    have e1 : ∀ S X : AV, apzX (st.put (some d) v) ag z S X = apzX st ag z S X := fun S X => by cases S <;> rfl
    have e2 : ∀ S X C : AV, apzOk (st.put (some d) v) i.k sz bytes ag z S X C = apzOk st i.k sz bytes ag z S X C := fun S X C => by cases S <;> rfl
    rw [val_put hl.1, val_put hl.2.1, ok_put hl.1, ok_put hl.2.1, e0, e1, e2] at hr
    refine ⟨hr.1, hr.2.1, hr.2.2.1, ?_⟩
    have h4 := hr.2.2.2
    have e3 : ∀ X : AV, appS (st.put (some d) v) i.k sz (.sl .ext []) X = (appS st i.k sz (.sl .ext []) X).put (some d) v := fun X => rfl
    have e4 : ∀ X : AV, appV (st.put (some d) v) i.k (.sl .ext []) X = appV st i.k (.sl .ext []) X := fun X => rfl
    rw [e3, e4, put_comm' hne] at h4
    exact h4
  · rename_i n ag A x hop
    rw [hop] at hl
    simp only [AOp.slots, List.mem_append, not_or] at hl
    rw [val_put hl.1, val_put hl.2, ok_put hl.1, ok_put hl.2] at hr
    refine ⟨hr.1, hr.2.1, hr.2.2.1, ?_⟩
    have h4 := hr.2.2.2
    rw [storeS_put, put_comm' hne] at h4
    exact h4
  · rename_i ng x hop
    rw [hop] at hl
    simp only [AOp.slots] at hl
    rw [val_put hl, ok_put hl] at hr
    refine ⟨hr.1, hr.2.1, fun b hb => ?_⟩
    have h4 := hr.2.2 b hb
    rw [put_comm' hne] at h4
    exact h4
  · rename_i f args hop
    rw [hop] at hl
    simp only [AOp.slots] at hl
    rw [all_put hl, map_put hl] at hr
    exact ⟨hr.1, evCall_put hne hr.2⟩
  · rename_i x args hop
    rw [hop] at hl
    simp only [AOp.slots, List.mem_append, not_or] at hl
    rw [all_put hl.2, map_put hl.2, val_put hl.1, ok_put hl.1] at hr
    refine ⟨hr.1, hr.2.1, ?_⟩
    have := hr.2.2
    split at this
    · exact evCall_put hne this
    · exact evCall_put hne this
    · exact this.elim
  · rw [pop_put hl, rop_put hl, make_put, vop_put hl, put_comm' hne] at hr
    exact hr
theorem gok_put {s : Nat} (h : s ≠ d) : gok (st.put (some d) v) s = gok st s := by
  simp [gok, St.put, tupd, h]
theorem gcond_put {s : Nat} {b : Bool} (h : s ≠ d) : gcond (st.put (some d) v) s b = gcond st s b := by
  simp [gcond, St.put, tupd, h]
theorem looks_split (hl : d ∉ i.looks) : d ∉ i.op.slots ∧ ∀ s b, i.g = some (s, b) → s ≠ d := by
  unfold AI.looks at hl
  rw [List.mem_append, not_or] at hl
  refine ⟨hl.1, fun s b hg e => ?_⟩
  rw [hg] at hl
  simp at hl
  exact hl.2 e.symm
theorem ok1_put (hl : d ∉ i.looks) : ok1 i (st.put (some d) v) ↔ ok1 i st := by
  obtain ⟨h1, h2⟩ := looks_split hl
  unfold ok1
  cases hg : i.g with
  | none => exact pop_put h1
  | some p => simp only [gok_put (h2 p.1 p.2 hg), gcond_put (h2 p.1 p.2 hg), pop_put h1]
theorem val1_put (hl : d ∉ i.looks) : val1 i (st.put (some d) v) = val1 i st := by
  obtain ⟨h1, h2⟩ := looks_split hl
  unfold val1
  cases hg : i.g with
  | none => exact vop_put h1
  | some p => simp only [gcond_put (h2 p.1 p.2 hg), vop_put h1]
theorem ok1_heap {h : Nat → Option Blk} {u : Nat → Bool} (hr : i.op.reads = false) (hq : i.op.quiet = true) : ok1 i { st with heap := h, us := u } ↔ ok1 i st := by
  unfold ok1
  cases i.g with
  | none => exact pop_heap hr hq
  | some p =>
    show (gok st p.1 ∧ (gcond st p.1 p.2 = true → _)) ↔ _
    simp only [pop_heap hr hq]
theorem val1_heap {h : Nat → Option Blk} {u : Nat → Bool} (hr : i.op.reads = false) : val1 i { st with heap := h, us := u } = val1 i st := by
  unfold val1
  cases i.g with
  | none => exact vop_heap hr
  | some p =>
    show AV.grd (gcond st p.1 p.2) _ = _
    simp only [vop_heap hr]
theorem ev1_put (hl : d ∉ i.looks) (hne : i.dst ≠ some d) (hr : ev1 P i (st.put (some d) v) K) : ev1 P i st (fun s => K (s.put (some d) v)) := by
  obtain ⟨h1, h2⟩ := looks_split hl
  cases hq : i.op.quiet with
  | true =>
    rw [ev1_quiet hq] at *
    rw [ok1_put hl, val1_put hl, put_comm' hne] at hr
    exact hr
  | false =>
    unfold ev1 at *
    cases hg : i.g with
    | none => rw [hg] at hr; exact evOp_put h1 hne hr
    | some p =>
      obtain ⟨s, b⟩ := p
      rw [hg] at hr
      simp only [gok_put (h2 s b hg), gcond_put (h2 s b hg), hq, Bool.false_eq_true, if_false] at hr ⊢
      refine ⟨hr.1, fun hc => evOp_put h1 hne (hr.2.1 hc), fun hc => ?_⟩
      have := hr.2.2 hc
      rw [put_comm' hne] at this
      exact this
end
end Go.Amb

set_option linter.unusedSimpArgs false
set_option linter.unusedVariables false
namespace Go.Amb
open Go Go.RowKit

/-- Operation j comes after i, by an edge of its own. -/
def dep (ops : Array Oper) (j i : Nat) : Bool :=
  match ops[j]? with
  | some o => o.after.any fun e => Region.binds .any e && e.on == i
  | none => false
inductive Bef (ops : Array Oper) : Nat → Nat → Prop
  | one {i j} (h : dep ops j i = true) : Bef ops i j
  | step {i m j} (h : dep ops j m = true) (t : Bef ops i m) : Bef ops i j
def Listed (L : Array Bool) (i : Nat) : Prop := L.getD i false = true
def Closed (ops : Array Oper) (L : Array Bool) : Prop := ∀ j i, Listed L j → dep ops j i = true → Listed L i

/-- Masks of what comes before. -/
def mask1 (acc : List Nat) (o : Oper) : Nat := o.after.toList.foldl (fun s e => if Region.binds .any e then s ||| (1 <<< e.on) ||| acc.getD e.on 0 else s) 0
def masks : List Oper → List Nat → List Nat
  | [], acc => acc
  | o :: os, acc => masks os (acc ++ [mask1 acc o])
def bef (pm : List Nat) (i j : Nat) : Bool := (pm.getD j 0).testBit i

section
variable {ops : Array Oper}
theorem mask1_spec (acc : List Nat) (o : Oper) (j i : Nat) (hj : ops[j]? = some o) (hacc : ∀ m i, (acc.getD m 0).testBit i = true → Bef ops i m) (h : (mask1 acc o).testBit i = true) : Bef ops i j := by
  have key : ∀ (l : List Edge) (s : Nat), (∀ e ∈ l, e ∈ o.after.toList) → (s.testBit i = true → Bef ops i j) → (l.foldl (fun s e => if Region.binds .any e then s ||| (1 <<< e.on) ||| acc.getD e.on 0 else s) s).testBit i = true → Bef ops i j := by
    intro l
    induction l with
    | nil => intro s _ hs h; exact hs h
    | cons e l ih =>
      intro s hl hs h
      refine ih _ (fun e he => hl e (by simp [he])) ?_ h
      intro h'
      dsimp only at h'
      split at h'
      · rename_i hb
        have hd : dep ops j e.on = true := by
          unfold dep
          rw [hj]
          simp only [Array.any_eq_true']
          exact ⟨e, Array.mem_toList_iff.1 (hl e (by simp)), by simp [hb]⟩
        rw [Nat.testBit_or, Nat.testBit_or, Bool.or_eq_true, Bool.or_eq_true] at h'
        rcases h' with (h' | h') | h'
        · exact hs h'
        · rw [Nat.one_shiftLeft, Nat.testBit_two_pow] at h'
          have : i = e.on := by have := of_decide_eq_true h'; omega
          rw [this]
          exact .one hd
        · exact .step hd (hacc _ _ h')
      · exact hs h'
  exact key _ 0 (fun e he => he) (by simp) h
theorem masks_spec : ∀ (os : List Oper) (acc : List Nat), (∀ m o, os[m]? = some o → ops[acc.length + m]? = some o) → (∀ m i, (acc.getD m 0).testBit i = true → Bef ops i m) → ∀ m i, ((masks os acc).getD m 0).testBit i = true → Bef ops i m
  | [], acc, _, h => h
  | o :: os, acc, ho, h => by
    refine masks_spec os _ (fun m o' hm => ?_) ?_
    · have := ho (m + 1) o' (by simpa using hm)
      rw [List.length_append, List.length_singleton, show acc.length + 1 + m = acc.length + (m + 1) by omega]
      exact this
    · intro m i hb
      rw [List.getD_eq_getElem?_getD, List.getElem?_append] at hb
      split at hb
      · exact h m i (by rw [List.getD_eq_getElem?_getD]; exact hb)
      · rename_i hlt
        by_cases hm : m = acc.length
        · subst hm
          simp at hb
          exact mask1_spec acc o _ i (by simpa using ho 0 o rfl) h hb
        · rw [List.getElem?_eq_none (by simp; omega)] at hb
          simp at hb
theorem bef_spec {i j : Nat} (h : bef (masks ops.toList []) i j = true) : Bef ops i j :=
  masks_spec ops.toList [] (fun m o hm => by simpa using hm) (fun m i hb => by simp at hb) j i h

theorem bef_listed {L : Array Bool} (hc : Closed ops L) {i j : Nat} (h : Bef ops i j) (hd : ∀ m, dep ops j m = true → Listed L m) : Listed L i := by
  induction h with
  | one h => exact hd _ h
  | step h t ih => exact ih (fun q hq => hc _ q (hd _ h) hq)
theorem ready_iff {L : Array Bool} {j : Nat} : j ∈ Region.ready .any ops L ↔ L.getD j true = false ∧ (∃ o, ops[j]? = some o) ∧ ∀ m, dep ops j m = true → Listed L m := by
  rw [mem_ready]
  constructor
  · rintro ⟨h1, o, ho, h2⟩
    refine ⟨h1, ⟨o, ho⟩, fun m hm => ?_⟩
    unfold dep at hm
    rw [ho] at hm
    simp only [Array.any_eq_true', Bool.and_eq_true, beq_iff_eq] at hm
    obtain ⟨e, he, hb, rfl⟩ := hm
    exact h2 e he hb
  · rintro ⟨h1, ⟨o, ho⟩, h2⟩
    refine ⟨h1, o, ho, fun e he hb => h2 e.on ?_⟩
    unfold dep
    rw [ho]
    simp only [Array.any_eq_true', Bool.and_eq_true, beq_iff_eq]
    exact ⟨e, he, hb, rfl⟩
theorem not_listed {L : Array Bool} {j : Nat} (h : L.getD j true = false) : ¬ Listed L j := by
  unfold Listed
  rcases Nat.lt_or_ge j L.size with h' | h'
  · simp [h'] at h ⊢; exact h
  · simp [Array.getElem?_eq_none h'] at h
theorem listed_set {L : Array Bool} {i j : Nat} (h : Listed L j) : Listed (L.setIfInBounds i true) j := getD_set_true h
theorem listed_set_ne {L : Array Bool} {i j : Nat} (hne : i ≠ j) (h : Listed (L.setIfInBounds i true) j) : Listed L j := by
  unfold Listed at *
  rwa [getD_set_ne false hne] at h
theorem listed_self {L : Array Bool} {i : Nat} (h : L.getD i true = false) : Listed (L.setIfInBounds i true) i := by
  rcases Nat.lt_or_ge i L.size with h' | h'
  · simp [Listed, h']
  · simp [Array.getElem?_eq_none h'] at h
theorem closed_set {L : Array Bool} {j : Nat} (hc : Closed ops L) (hr : j ∈ Region.ready .any ops L) : Closed ops (L.setIfInBounds j true) := by
  intro m i hm hd
  by_cases h : j = m
  · subst h; exact listed_set ((ready_iff.1 hr).2.2 i hd)
  · exact listed_set (hc m i (listed_set_ne h hm) hd)
end

/-! ### any order, abstractly -/
def wsOf (ws : List (Nat × List Nat)) (j : Nat) : List Nat := (ws.lookup j).getD []
/-- A quiet operation gives now what it gave. -/
def recheck (is : List AI) (s : St) (m : Nat) : Prop :=
  match is[m]? with
  | some i => ok1 i s ∧ (match i.dst with | some d => val1 i s = s.tmp d | none => False)
  | none => False
def ev1w (P : Program) (is : List AI) (ws : List (Nat × List Nat)) (L : Array Bool) (j : Nat) (st : St) (K : St → Prop) : Prop :=
  match is[j]? with
  | some i => ev1 P i st fun s => (∀ m ∈ wsOf ws j, Listed L m → recheck is s m) ∧ K s
  | none => False
def evAny (P : Program) (ops : Array Oper) (is : List AI) (ws : List (Nat × List Nat)) (K : St → Prop) : Nat → Array Bool → St → Prop
  | 0, L, st => Region.ready .any ops L = [] ∧ K st
  | fuel + 1, L, st => (Region.ready .any ops L = [] → K st) ∧ ∀ j ∈ Region.ready .any ops L, ev1w P is ws L j st (evAny P ops is ws K fuel (L.setIfInBounds j true))

/-- May be taken first, whenever it is ready. -/
def takeOk (ops : Array Oper) (is : List AI) (ws : List (Nat × List Nat)) (pm : List Nat) (i : Nat) : Bool :=
  match is[i]? with
  | none => false
  | some ii =>
    match ii.dst with
    | none => false
    | some d => ii.op.quiet && !ii.looks.contains d && (wsOf ws i).isEmpty &&
      (List.range is.length).all fun j => j == i || (match is[j]? with
        | none => true
        | some jj => jj.dst != some d && (!jj.looks.contains d || dep ops j i) &&
          (match jj.dst with | some dj => !ii.looks.contains dj || dep ops i j || dep ops j i | none => true) &&
          (!ii.op.reads || jj.op.quiet || bef pm i j || bef pm j i || (wsOf ws j).contains i))
structure Take (ops : Array Oper) (is : List AI) (ws : List (Nat × List Nat)) (i : Nat) (ii : AI) (d : Nat) : Prop where
  get : is[i]? = some ii
  dst : ii.dst = some d
  quiet : ii.op.quiet = true
  self : d ∉ ii.looks
  ws0 : wsOf ws i = []
  dne : ∀ j jj, is[j]? = some jj → j ≠ i → jj.dst ≠ some d
  looked : ∀ j jj, is[j]? = some jj → j ≠ i → d ∈ jj.looks → dep ops j i = true
  looks : ∀ j jj dj, is[j]? = some jj → j ≠ i → jj.dst = some dj → dj ∈ ii.looks → dep ops i j = true ∨ dep ops j i = true
  reads : ∀ j jj, is[j]? = some jj → j ≠ i → ii.op.reads = true → jj.op.quiet = true ∨ Bef ops i j ∨ Bef ops j i ∨ i ∈ wsOf ws j

section
variable {P : Program} {ops : Array Oper} {is : List AI} {ws : List (Nat × List Nat)} {K : St → Prop}
theorem takeOk_spec {i : Nat} (h : takeOk ops is ws (masks ops.toList []) i = true) : ∃ ii d, Take ops is ws i ii d := by
  unfold takeOk at h
  split at h
  · cases h
  · rename_i ii hi
    split at h
    · cases h
    · rename_i d hd
      simp only [Bool.and_eq_true, Bool.not_eq_true', List.all_eq_true, List.mem_range, Bool.or_eq_true, beq_iff_eq] at h
      obtain ⟨⟨⟨h1, h2⟩, h3⟩, h4⟩ := h
      have at_ : ∀ j jj, is[j]? = some jj → j ≠ i → _ := fun j jj hj hne => by
        have := (h4 j (List.getElem?_eq_some_iff.1 hj).1).resolve_left hne
        simp only [hj] at this
        exact this
      refine ⟨ii, d, hi, hd, h1, by simpa using h2, by simpa using h3, ?_, ?_, ?_, ?_⟩
      · intro j jj hj hne
        have := at_ j jj hj hne
        simp only [Bool.and_eq_true, bne_iff_ne] at this
        exact this.1.1.1
      · intro j jj hj hne hm
        have := at_ j jj hj hne
        simp only [Bool.and_eq_true, Bool.or_eq_true, Bool.not_eq_true'] at this
        exact this.1.1.2.resolve_left (by simpa using hm)
      · intro j jj dj hj hne hdj hm
        have := at_ j jj hj hne
        simp only [Bool.and_eq_true, Bool.or_eq_true, Bool.not_eq_true', hdj] at this
        have := this.1.2
        rcases this with (h | h) | h
        · simp at h; exact absurd hm h
        · exact .inl h
        · exact .inr h
      · intro j jj hj hne hrd
        have := at_ j jj hj hne
        simp only [Bool.and_eq_true, Bool.or_eq_true, Bool.not_eq_true'] at this
        rcases this.2 with (((h | h) | h) | h) | h
        · rw [hrd] at h; cases h
        · exact .inl h
        · exact .inr (.inl (bef_spec h))
        · exact .inr (.inr (.inl (bef_spec h)))
        · exact .inr (.inr (.inr (by simpa using h)))

theorem tmp_put_self {st : St} {d : Nat} {v : AV} : (st.put (some d) v).tmp d = v := by simp [St.put, tupd]
theorem tmp_put_ne {st : St} {d e : Nat} {v : AV} (h : e ≠ d) : (st.put (some d) v).tmp e = st.tmp e := by simp [St.put, tupd, h]

theorem ev_first {i : Nat} {ii : AI} {d : Nat} (T : Take ops is ws i ii d) (hT : ∀ j : Nat, (∃ o : Oper, ops[j]? = some o) → ∃ jj : AI, is[j]? = some jj)
    (hws : ∀ j m, m ∈ wsOf ws j → ∃ mm e, Take ops is ws m mm e) :
    ∀ (fuel : Nat) (L : Array Bool) (st : St), Closed ops L → i ∈ Region.ready .any ops L → ok1 ii st → evAny P ops is ws K fuel (L.setIfInBounds i true) (st.put (some d) (val1 ii st)) → evAny P ops is ws K (fuel + 1) L st := by
  intro fuel
  have self : ∀ (fuel : Nat) (L : Array Bool) (st : St), ok1 ii st → evAny P ops is ws K fuel (L.setIfInBounds i true) (st.put (some d) (val1 ii st)) → ev1w P is ws L i st (evAny P ops is ws K fuel (L.setIfInBounds i true)) := by
    intro fuel L st hok H
    unfold ev1w
    rw [T.get]
    simp only
    rw [ev1_quiet T.quiet, T.dst]
    exact ⟨hok, fun m hm => by rw [T.ws0] at hm; simp at hm, H⟩
  induction fuel with
  | zero =>
    intro L st hc hr hok H
    refine ⟨fun h => (by rw [h] at hr; cases hr), fun j hj => ?_⟩
    by_cases hji : j = i
    · subst hji; exact self 0 L st hok H
    · have := ready_mono hj hji
      rw [H.1] at this
      cases this
  | succ fuel ih =>
    intro L st hc hr hok H
    refine ⟨fun h => (by rw [h] at hr; cases hr), fun j hj => ?_⟩
    by_cases hji : j = i
    · subst hji; exact self (fuel + 1) L st hok H
    have hri := ready_iff.1 hr
    have hrj := ready_iff.1 hj
    have ndij : ¬ dep ops i j = true := fun h => not_listed hrj.1 (hri.2.2 j h)
    have ndji : ¬ dep ops j i = true := fun h => not_listed hri.1 (hrj.2.2 i h)
    have h1 := H.2 j (ready_mono hj hji)
    obtain ⟨jj, hjj⟩ := hT j hrj.2.1
    unfold ev1w at h1 ⊢
    rw [hjj] at h1 ⊢
    simp only at h1 ⊢
    have hdl : d ∉ jj.looks := fun h => ndji (T.looked j jj hjj hji h)
    have hdn : jj.dst ≠ some d := T.dne j jj hjj hji
    have h2 := ev1_reach (ev1_put hdl hdn h1)
    refine ev1_mono ?_ h2
    rintro s ⟨⟨hp, u, v', hs, hq⟩, hw, hK⟩
    have hdst : ∀ dj, jj.dst = some dj → dj ∉ ii.looks := fun dj hdj hm => (T.looks j jj dj hjj hji hdj hm).elim ndij ndji
    have hY : ok1 ii s ∧ val1 ii s = val1 ii st := by
      have fromHeap : ∀ (h' : Nat → Option Blk) (u' : Nat → Bool), s = ({ st with heap := h', us := u' } : St).put jj.dst v' → (ok1 ii { st with heap := h', us := u' } ↔ ok1 ii st) → val1 ii { st with heap := h', us := u' } = val1 ii st → ok1 ii s ∧ val1 ii s = val1 ii st := by
        intro h' u' e e1 e2
        rw [e]
        cases hdj : jj.dst with
        | none => exact ⟨e1.2 hok, e2⟩
        | some dj => rw [ok1_put (hdst dj hdj), val1_put (hdst dj hdj)]; exact ⟨e1.2 hok, e2⟩
      cases hrd : ii.op.reads with
      | false => exact fromHeap hp u hs (ok1_heap hrd T.quiet) (val1_heap hrd)
      | true =>
        rcases T.reads j jj hjj hji hrd with h | h | h | h
        · obtain ⟨e1, e2⟩ := hq h
          subst e1 e2
          exact fromHeap st.heap st.us hs Iff.rfl rfl
        · exact absurd (bef_listed hc h hrj.2.2) (not_listed hri.1)
        · exact absurd (bef_listed hc h hri.2.2) (not_listed hrj.1)
        · have := hw i h (listed_self hri.1)
          unfold recheck at this
          rw [T.get] at this
          simp only [T.dst, tmp_put_self, ok1_put T.self, val1_put T.self] at this
          exact this
    refine ⟨fun m hm hl => ?_, ?_⟩
    · obtain ⟨mm, e, M⟩ := hws j m hm
      have hmi : m ≠ i := fun h => not_listed hri.1 (h ▸ hl)
      have h3 := hw m hm (listed_set hl)
      unfold recheck at h3 ⊢
      rw [M.get] at h3 ⊢
      simp only [M.dst] at h3 ⊢
      have hmd : d ∉ mm.looks := fun h => not_listed hri.1 (hc m i hl (T.looked m mm M.get hmi h))
      have hed : e ≠ d := fun h => T.dne m mm M.get hmi (by rw [M.dst, h])
      rw [ok1_put hmd, val1_put hmd, tmp_put_ne hed] at h3
      exact h3
    · refine ih (L.setIfInBounds j true) s (closed_set hc hj) (ready_mono hr (Ne.symm hji)) hY.1 ?_
      rw [hY.2, Array.setIfInBounds_comm _ _ hji]
      exact hK

/-! ### one order -/
inductive Sch where
  | done
  | take (i : Nat) (s : Sch)
  | one (i : Nat) (s : Sch)
  | two (i : Nat) (s : Sch) (j : Nat) (t : Sch)
  | three (i : Nat) (s : Sch) (j : Nat) (t : Sch) (k : Nat) (u : Sch)
def Sch.ok (ops : Array Oper) (is : List AI) (ws : List (Nat × List Nat)) (pm : List Nat) : Sch → Nat → Array Bool → Bool
  | .done, _, L => (Region.ready .any ops L).isEmpty
  | .take i s, f, L => f != 0 && takeOk ops is ws pm i && (Region.ready .any ops L).contains i && s.ok ops is ws pm (f - 1) (L.setIfInBounds i true)
  | .one i s, f, L => f != 0 && Region.ready .any ops L == [i] && s.ok ops is ws pm (f - 1) (L.setIfInBounds i true)
  | .two i s j t, f, L => f != 0 && Region.ready .any ops L == [i, j] && s.ok ops is ws pm (f - 1) (L.setIfInBounds i true) && t.ok ops is ws pm (f - 1) (L.setIfInBounds j true)
  | .three i s j t k u, f, L => f != 0 && Region.ready .any ops L == [i, j, k] && s.ok ops is ws pm (f - 1) (L.setIfInBounds i true) && t.ok ops is ws pm (f - 1) (L.setIfInBounds j true) && u.ok ops is ws pm (f - 1) (L.setIfInBounds k true)
def rechecks (is : List AI) (s : St) : List Nat → Prop
  | [] => True
  | m :: ms => recheck is s m ∧ rechecks is s ms
def ev1t (P : Program) (is : List AI) (ws : List (Nat × List Nat)) (j : Nat) (st : St) (K : St → Prop) : Prop :=
  match is[j]? with
  | some i => ev1 P i st fun s => rechecks is s (wsOf ws j) ∧ K s
  | none => False
def evT (P : Program) (is : List AI) (ws : List (Nat × List Nat)) : Sch → St → (St → Prop) → Prop
  | .done, st, K => K st
  | .take i s, st, K => ev1t P is ws i st fun st' => evT P is ws s st' K
  | .one i s, st, K => ev1t P is ws i st fun st' => evT P is ws s st' K
  | .two i s j t, st, K => ev1t P is ws i st (fun st' => evT P is ws s st' K) ∧ ev1t P is ws j st (fun st' => evT P is ws t st' K)
  | .three i s j t k u, st, K => ev1t P is ws i st (fun st' => evT P is ws s st' K) ∧ ev1t P is ws j st (fun st' => evT P is ws t st' K) ∧ ev1t P is ws k st (fun st' => evT P is ws u st' K)
def wsOk (ops : Array Oper) (is : List AI) (ws : List (Nat × List Nat)) (pm : List Nat) : Bool := ws.all fun p => p.2.all fun m => takeOk ops is ws pm m

theorem rechecks_all {s : St} {l : List Nat} (h : rechecks is s l) : ∀ m ∈ l, recheck is s m := by
  induction l with
  | nil => simp
  | cons m l ih =>
    intro m' hm
    rcases List.mem_cons.1 hm with rfl | hm
    · exact h.1
    · exact ih h.2 m' hm
theorem ev1t_w {j : Nat} {st : St} {K K' : St → Prop} {L : Array Bool} (h : ev1t P is ws j st K) (hk : ∀ s, K s → K' s) : ev1w P is ws L j st K' := by
  unfold ev1t at h
  unfold ev1w
  split at h
  · exact ev1_mono (fun s hs => ⟨fun m hm _ => rechecks_all hs.1 m hm, hk s hs.2⟩) h
  · exact h.elim
theorem wsOk_spec (h : wsOk ops is ws (masks ops.toList []) = true) : ∀ j m, m ∈ wsOf ws j → ∃ mm e, Take ops is ws m mm e := by
  intro j m hm
  unfold wsOf at hm
  cases hl : ws.lookup j with
  | none => rw [hl] at hm; simp at hm
  | some l =>
    rw [hl] at hm
    simp only [Option.getD_some] at hm
    have hmem : ∃ p ∈ ws, p.2 = l := by
      clear h hm
      induction ws with
      | nil => simp at hl
      | cons p ws ih =>
        obtain ⟨a, b⟩ := p
        rw [List.lookup_cons] at hl
        split at hl
        · injection hl with hl; exact ⟨(a, b), by simp, hl⟩
        · obtain ⟨p, hp, e⟩ := ih hl; exact ⟨p, by simp [hp], e⟩
    obtain ⟨p, hp, e⟩ := hmem
    simp only [wsOk, List.all_eq_true] at h
    exact takeOk_spec (h p hp m (e ▸ hm))

theorem evT_any (hT : ∀ j : Nat, (∃ o : Oper, ops[j]? = some o) → ∃ jj : AI, is[j]? = some jj) (hws : ∀ j m, m ∈ wsOf ws j → ∃ mm e, Take ops is ws m mm e) :
    ∀ (t : Sch) (f : Nat) (L : Array Bool) (st : St), t.ok ops is ws (masks ops.toList []) f L = true → Closed ops L → evT P is ws t st K → evAny P ops is ws K f L st
  | .done, f, L, st, h, hc, H => by
    simp only [Sch.ok, List.isEmpty_iff] at h
    cases f with
    | zero => exact ⟨h, H⟩
    | succ f => exact ⟨fun _ => H, by rw [h]; simp⟩
  | .take i s, 0, L, st, h, hc, H => by simp [Sch.ok] at h
  | .one i s, 0, L, st, h, hc, H => by simp [Sch.ok] at h
  | .two i s j t, 0, L, st, h, hc, H => by simp [Sch.ok] at h
  | .three i s j t k u, 0, L, st, h, hc, H => by simp [Sch.ok] at h
  | .take i s, f + 1, L, st, h, hc, H => by
    simp only [Sch.ok, Bool.and_eq_true, Nat.add_sub_cancel] at h
    obtain ⟨⟨⟨_, h1⟩, h2⟩, h3⟩ := h
    have hr : i ∈ Region.ready .any ops L := by simpa using h2
    obtain ⟨ii, d, T⟩ := takeOk_spec h1
    simp only [evT, ev1t, T.get, T.ws0, rechecks, true_and] at H
    rw [ev1_quiet T.quiet, T.dst] at H
    exact ev_first T hT hws f L st hc hr H.1 (evT_any hT hws s f _ _ h3 (closed_set hc hr) H.2)
  | .one i s, f + 1, L, st, h, hc, H => by
    simp only [Sch.ok, Bool.and_eq_true, Nat.add_sub_cancel, beq_iff_eq] at h
    obtain ⟨⟨_, h1⟩, h2⟩ := h
    have hr : i ∈ Region.ready .any ops L := by rw [h1]; simp
    refine ⟨fun e => by rw [e] at h1; simp at h1, fun j hj => ?_⟩
    rw [h1] at hj
    simp only [List.mem_singleton] at hj
    subst hj
    exact ev1t_w H fun s' hs => evT_any hT hws s f _ _ h2 (closed_set hc hr) hs
  | .two i s i2 t, f + 1, L, st, h, hc, H => by
    simp only [Sch.ok, Bool.and_eq_true, Nat.add_sub_cancel, beq_iff_eq] at h
    obtain ⟨⟨⟨_, h1⟩, h2⟩, h3⟩ := h
    have hr : i ∈ Region.ready .any ops L := by rw [h1]; simp
    have hr2 : i2 ∈ Region.ready .any ops L := by rw [h1]; simp
    refine ⟨fun e => by rw [e] at h1; simp at h1, fun j hj => ?_⟩
    rw [h1] at hj
    simp only [List.mem_cons, List.not_mem_nil, or_false] at hj
    rcases hj with rfl | rfl
    · exact ev1t_w H.1 fun s' hs => evT_any hT hws s f _ _ h2 (closed_set hc hr) hs
    · exact ev1t_w H.2 fun s' hs => evT_any hT hws t f _ _ h3 (closed_set hc hr2) hs
  | .three i s i2 t i3 u, f + 1, L, st, h, hc, H => by
    simp only [Sch.ok, Bool.and_eq_true, Nat.add_sub_cancel, beq_iff_eq] at h
    obtain ⟨⟨⟨⟨_, h1⟩, h2⟩, h3⟩, h4⟩ := h
    have hr : i ∈ Region.ready .any ops L := by rw [h1]; simp
    have hr2 : i2 ∈ Region.ready .any ops L := by rw [h1]; simp
    have hr3 : i3 ∈ Region.ready .any ops L := by rw [h1]; simp
    refine ⟨fun e => by rw [e] at h1; simp at h1, fun j hj => ?_⟩
    rw [h1] at hj
    simp only [List.mem_cons, List.not_mem_nil, or_false] at hj
    rcases hj with rfl | rfl | rfl
    · exact ev1t_w H.1 fun s' hs => evT_any hT hws s f _ _ h2 (closed_set hc hr) hs
    · exact ev1t_w H.2.1 fun s' hs => evT_any hT hws t f _ _ h3 (closed_set hc hr2) hs
    · exact ev1t_w H.2.2 fun s' hs => evT_any hT hws u f _ _ h4 (closed_set hc hr3) hs
end
end Go.Amb
