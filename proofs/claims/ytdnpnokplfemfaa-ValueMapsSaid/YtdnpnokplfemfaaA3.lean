/- What the reading of an argument tells is an abstract value. -/
import Derived.Test.YtdnpnokplfemfaaA4
import Derived.ChangeArms
import Derived.DataReads
import Derived.DataElems
import Derived.WideShapes
import GoSem.ClaimJoined
import Derived.Below

set_option linter.unusedSimpArgs false
set_option linter.unusedVariables false
namespace Go.Amb
open Go Go.RowKit

/-- Two lists, element by element. -/
def All2 {α β : Type} (G : α → β → Prop) : List α → List β → Prop
  | [], [] => True
  | a :: as, b :: bs => G a b ∧ All2 G as bs
  | _, _ => False
theorem All2.length {α β : Type} {G : α → β → Prop} : ∀ {as : List α} {bs : List β}, All2 G as bs → as.length = bs.length
  | [], [], _ => rfl
  | _ :: as, _ :: bs, h => by simp [All2.length h.2]
  | [], _ :: _, h => h.elim
  | _ :: _, [], h => h.elim
theorem All2.append {α β : Type} {G : α → β → Prop} : ∀ {as : List α} {bs : List β} {a : α} {b : β}, All2 G as bs → G a b → All2 G (as ++ [a]) (bs ++ [b])
  | [], [], _, _, _, h => ⟨h, trivial⟩
  | _ :: as, _ :: bs, _, _, h, g => ⟨h.1, All2.append h.2 g⟩
  | [], _ :: _, _, _, h, _ => h.elim
  | _ :: _, [], _, _, h, _ => h.elim
theorem All2.mem {α β : Type} {G : α → β → Prop} : ∀ {as : List α} {bs : List β}, All2 G as bs → ∀ a ∈ as, ∃ b ∈ bs, G a b
  | [], [], _, a, ha => by simp at ha
  | x :: as, y :: bs, h, a, ha => by
    rcases List.mem_cons.1 ha with rfl | ha
    · exact ⟨y, by simp, h.1⟩
    · obtain ⟨b, hb, hg⟩ := All2.mem h.2 a ha
      exact ⟨b, by simp [hb], hg⟩
  | [], _ :: _, h, _, _ => h.elim
  | _ :: _, [], h, _, _ => h.elim

section
variable {H : Type} {enc : TypeId × Value → H} {P : Program} {w : World} {t e : TypeId} {n : Nat} {cs : List Value} {x : DataW H × List MemPlace}

/-- The cells are what is told by content. -/
def Tell (w : World) (vs : List AV) (cs : List Value) : Prop := Vals w noO 0 noPl vs cs [] ∧ ∀ c ∈ vs, c.one = true
theorem Tell.app {vs vs' : List AV} {cs cs' : List Value} (h : Tell w vs cs) (h' : Tell w vs' cs') : Tell w (vs ++ vs') (cs ++ cs') :=
  ⟨by simpa using h.1.append h'.1, fun c hc => (List.mem_append.1 hc).elim (h.2 c) (h'.2 c)⟩
theorem Tell.nil : Tell w [] [] := ⟨.nil, by simp⟩
theorem tell_int {k : IntKind} (ht : P.underlying t = some (.int k)) (h : DataW.trod enc P w 0 (fun _ => true) true n t cs = some x) : ∃ i, Tell w [.int k i] cs ∧ x.1 = .lit (.int k i) ∧ (Lit.int k i).wf = true := by
  obtain ⟨i, rfl, rfl, hw⟩ := DataW.trod_int ht h
  exact ⟨i, ⟨.int .nil, by simp [AV.one]⟩, rfl, hw⟩
theorem tell_bool (ht : P.underlying t = some .bool) (h : DataW.trod enc P w 0 (fun _ => true) true n t cs = some x) : ∃ b, Tell w [.bool b] cs ∧ x.1 = .lit (.bool b) := by
  obtain ⟨b, rfl, rfl⟩ := DataW.trod_bool ht h
  exact ⟨b, ⟨.bool .nil, by simp [AV.one]⟩, rfl⟩
theorem tell_str (ht : P.underlying t = some .string) (h : DataW.trod enc P w 0 (fun _ => true) true n t cs = some x) : ∃ s : ByteArray, Tell w [.str s] cs ∧ x.1 = .lit (.string s.data.toList) ∧ s.size ≤ maxLen := by
  obtain ⟨s, rfl, rfl, hs⟩ := DataW.trod_string ht h
  exact ⟨s, ⟨.str .nil, by simp [AV.one]⟩, rfl, hs⟩

theorem cell_lt {a : Addr} {v : Value} (h : w.cell? a = some v) : a.block < w.heap.size := by
  unfold World.cell? at h
  split at h
  · rename_i he
    exact (Array.getElem?_eq_some_iff.1 he).1
  · cases h

theorem tell_rows {sz : Nat} {α : Type} (f : α → AV) (G : α → DataW H → Prop) (a : Addr) (r : List Value → Option (DataW H × List MemPlace)) (elems : List (DataW H × List MemPlace))
    (ih : ∀ cs x, r cs = some x → ∃ y, Tell w (cellsOf (f y)) cs ∧ (cellsOf (f y)).length = sz ∧ G y x.1) :
    ∀ len, len ≤ elems.length → (∀ i, i < len → (w.cells? 0 (a.add (i * sz)) sz).bind r = elems[i]?) →
      ∃ (ys : List α) (cc : List Value), ys.length = len ∧ Tell w (flat (ys.map f)) cc ∧ cc.length = len * sz ∧ (∀ k v, cc[k]? = some v → w.cell? (a.add k) = some v) ∧ (∀ y ∈ ys, (cellsOf (f y)).length = sz) ∧ All2 G ys ((elems.take len).map (·.1)) := by
  intro len
  induction len with
  | zero => intro _ _; exact ⟨[], [], rfl, Tell.nil, by simp, by simp, by simp, by simp [All2]⟩
  | succ len ihl =>
    intro hle h
    obtain ⟨ys, cc, h1, h2, h3, h4, h5, h6⟩ := ihl (by omega) (fun i hi => h i (by omega))
    have hl := h len (by omega)
    obtain ⟨el, hel⟩ : ∃ el, elems[len]? = some el := ⟨_, List.getElem?_eq_getElem (by omega)⟩
    rw [hel] at hl
    cases hc : w.cells? 0 (a.add (len * sz)) sz with
    | none => rw [hc] at hl; cases hl
    | some cs =>
      rw [hc] at hl
      obtain ⟨y, hy1, hy2, hy3⟩ := ih cs el hl
      obtain ⟨_, hcl, hcell⟩ := World.cells?_some hc
      refine ⟨ys ++ [y], cc ++ cs, by simp [h1], ?_, ?_, ?_, ?_, ?_⟩
      · rw [List.map_append, flat_append]
        exact h2.app (by simpa [flat] using hy1)
      · rw [List.length_append, h3, hcl, Nat.add_mul]; omega
      · intro k v hk
        rw [List.getElem?_append] at hk
        split at hk
        · exact h4 k v hk
        · have hk' : k - cc.length < cs.length := by
            rcases Nat.lt_or_ge (k - cc.length) cs.length with h | h
            · exact h
            · rw [List.getElem?_eq_none h] at hk; cases hk
          have := hcell (k - cc.length) (by omega)
          rw [hk] at this
          rw [← this]
          rename_i hge
          rw [Addr.add_add]
          congr 2
          omega
      · intro z hz
        rcases List.mem_append.1 hz with hz | hz
        · exact h5 z hz
        · simp at hz; subst hz; exact hy2
      · rw [List.take_add_one, hel]
        simp only [Option.toList_some, List.map_append, List.map_cons, List.map_nil]
        exact h6.append hy3

def SlOf {α : Type} (G : α → DataW H → Prop) (d : DataW H) (ys : List α) : Prop := (d = .nil ∧ ys = []) ∨ ∃ es sp, d = .slice es sp ∧ All2 G ys es
/-- A slice, told by its elements. -/
theorem tell_slice (ht : P.underlying t = some (.slice e)) (hpos : 0 < P.cellsOf e) {α : Type} (f : α → AV) (G : α → DataW H → Prop) (h : DataW.trod enc P w 0 (fun _ => true) true n t cs = some x)
    (ih : ∀ m, m < n → ∀ cs x, DataW.trod enc P w 0 (fun _ => true) true m e cs = some x → ∃ y, Tell w (cellsOf (f y)) cs ∧ (cellsOf (f y)).length = P.cellsOf e ∧ G y x.1) :
    ∃ ys : List α, Tell w [.sl .fro (ys.map f)] cs ∧ ys.length ≤ maxLen ∧ SlOf G x.1 ys := by
  rcases DataW.trod_slice ht h with ⟨rfl, rfl⟩ | ⟨a, len, cap, elems, rest, m, rfl, rfl, rfl, hb, hlc, hcm, hel, hget, -, -⟩
  · exact ⟨[], ⟨.sle rfl (by simp) .nil, by simp [AV.one]⟩, by simp, .inl ⟨rfl, rfl⟩⟩
  · obtain ⟨ys, cc, h1, h2, h3, h4, h5, h6⟩ := tell_rows f G a _ elems (fun cs x hx => ih m (by omega) cs x hx) len (by omega) hget
    refine ⟨ys, ⟨?_, by simp [AV.one]⟩, by omega, .inr ⟨_, _, rfl, ?_⟩⟩
    · cases ys with
      | nil => simp at h1; subst h1; exact .sle rfl (by simp) .nil
      | cons y ys =>
        have hne : len ≠ 0 := by simp at h1; omega
        have hc0 : 0 < cc.length := by rw [h3]; exact Nat.mul_pos (by omega) hpos
        have hcell := h4 0 _ (List.getElem?_eq_getElem hc0)
        have hsp := World.cell?_spot hcell
        have hlt := cell_lt hcell
        obtain ⟨b, p, spot⟩ := a
        have hs : spot = none := by simpa [Addr.add] using hsp
        subst hs
        subst h1
        have := Vals.slf (w := w) (O := noO) (B := 0) (pl := noPl) (k := .fro) (xs := (y :: ys).map f) (b := b) (p := p) (c := cap) (sz := P.cellsOf e) (cs := cc) (vs := []) (us := []) (fp := []) (.inl rfl) (by simp) (by simp [noO]) hlt hpos
          (fun z hz => by
            obtain ⟨q, hq, rfl⟩ := List.mem_map.1 hz
            exact h5 q hq) h2.2 h2.1 (fun k v hk => by have := h4 k v hk; rwa [WideShapes.add_plain] at this) (by simpa using hlc) .nil
        simpa using this
    · have : elems.take len = elems := List.take_of_length_le (by omega)
      rw [this] at h6
      exact h6

/-- The fields lie one behind the other. -/
def contig (P : Program) : Nat → List Field → Nat → Bool
  | o, [], n => o == n
  | o, f :: fs, n => f.offset == o && contig P (o + P.cellsOf f.type) fs n
theorem contig_pieces : ∀ (fs : List Field) (o n : Nat) (cs : List Value), contig P o fs n = true → cs.length = n → cs.drop o = (fs.map fun f => (cs.drop f.offset).take (P.cellsOf f.type)).flatten
  | [], o, n, cs, h, hl => by
    simp [contig] at h
    simp [h, ← hl]
  | f :: fs, o, n, cs, h, hl => by
    simp only [contig, Bool.and_eq_true, beq_iff_eq] at h
    rw [List.map_cons, List.flatten_cons, ← contig_pieces fs _ n cs h.2 hl, h.1, ← List.drop_drop, List.take_append_drop]
/-- Fields, their cells, what is read of them. -/
def Each {H : Type} (r : TypeId → List Value → DataW H → Prop) : List Field → List (List Value) → List (DataW H) → Prop
  | [], [], [] => True
  | f :: fs, c :: cs, d :: ds => r f.type c d ∧ Each r fs cs ds
  | _, _, _ => False
theorem each_cons {r : TypeId → List Value → DataW H → Prop} {f : Field} {fs : List Field} {css : List (List Value)} {ds : List (DataW H)} (h : Each r (f :: fs) css ds) :
    ∃ c css' d ds', css = c :: css' ∧ ds = d :: ds' ∧ r f.type c d ∧ Each r fs css' ds' := by
  cases css <;> cases ds <;> simp [Each] at h
  exact ⟨_, _, _, _, rfl, rfl, h.1, h.2⟩
theorem each_nil {r : TypeId → List Value → DataW H → Prop} {css : List (List Value)} {ds : List (DataW H)} (h : Each r [] css ds) : css = [] ∧ ds = [] := by
  cases css <;> cases ds <;> simp [Each] at h
  exact ⟨rfl, rfl⟩
theorem each_of {m : Nat} (g : Field → List Value) : ∀ (fs : List Field) (xs : List (DataW H × List MemPlace)), xs.length = fs.length → (∀ (i : Nat) (f : Field), fs[i]? = some f → DataW.trod enc P w 0 (fun _ => true) true m f.type (g f) = xs[i]?) →
    Each (fun t c d => ∃ p, DataW.trod enc P w 0 (fun _ => true) true m t c = some (d, p)) fs (fs.map g) (xs.map (·.1))
  | [], [], _, _ => trivial
  | f :: fs, x :: xs, hl, h => ⟨⟨x.2, by simpa using h 0 f rfl⟩, each_of g fs xs (by simpa using hl) fun i f' hf => by simpa using h (i + 1) f' (by simpa using hf)⟩
  | [], _ :: _, hl, _ => by simp at hl
  | _ :: _, [], hl, _ => by simp at hl
theorem tell_fields {fs : Array Field} (ht : P.underlying t = some (.struct fs)) (hc : contig P 0 fs.toList (P.cellsOf t) = true) (h : DataW.trod enc P w 0 (fun _ => true) true n t cs = some x) :
    ∃ (css : List (List Value)) (ds : List (DataW H)) (m : Nat), n = m + 1 ∧ x.1 = .agg ds ∧ cs = css.flatten ∧ Each (fun t c d => ∃ p, DataW.trod enc P w 0 (fun _ => true) true m t c = some (d, p)) fs.toList css ds := by
  obtain ⟨xs, m, rfl, rfl, hl, hxl, hf⟩ := DataW.trod_struct ht h
  refine ⟨fs.toList.map fun f => (cs.drop f.offset).take (P.cellsOf f.type), xs.map (·.1), m, rfl, rfl, ?_, ?_⟩
  · rw [← contig_pieces fs.toList 0 _ cs hc hl]; rfl
  · exact each_of _ fs.toList xs (by simpa using hxl) fun i f hi => hf i f (by simpa using hi)

/-- A measure of what is read. -/
structure BulkOf {H : Type} (B : DataW H → Nat) (BA : List (DataW H) → Nat) : Prop where
  agg : ∀ ps, B (.agg ps) = BA ps + 1
  sl : ∀ es sp, B (.slice es sp) = BA es + BA sp + 1
  nil : BA [] = 0
  cons : ∀ d r, BA (d :: r) = B d + BA r
  one : ∀ d, 1 ≤ B d
  str : ∀ b, B (.lit (.string b)) = b.length + 1
theorem all2_bulk {B : DataW H → Nat} {BA : List (DataW H) → Nat} (hB : BulkOf B BA) {α : Type} {f : α → Nat} : ∀ {ys : List α} {es : List (DataW H)}, All2 (fun y d => f y ≤ B d) ys es → (ys.map f).sum ≤ BA es
  | [], [], _ => by simp [hB.nil]
  | y :: ys, d :: es, h => by
    have h1 := h.1
    have h2 := all2_bulk hB h.2
    rw [hB.cons, List.map_cons, List.sum_cons]
    omega
  | [], _ :: _, h => h.elim
  | _ :: _, [], h => h.elim
theorem slOf_bulk {B : DataW H → Nat} {BA : List (DataW H) → Nat} (hB : BulkOf B BA) {α : Type} {f : α → Nat} {ys : List α} {d : DataW H} (h : SlOf (fun y d => f y ≤ B d) d ys) : (ys.map f).sum + 1 ≤ B d := by
  rcases h with ⟨rfl, rfl⟩ | ⟨es, sp, rfl, h⟩
  · exact hB.one _
  · have := all2_bulk hB h
    rw [hB.sl]
    omega
/-- All that is read has its size. -/
def WOk (P : Program) (t : TypeId) (d : DataW H) : Prop := ∀ k ∈ DataW.weights P t d, k ≤ reachBytes
theorem all2_ok {α : Type} {ok : α → Prop} : ∀ {ys : List α} {es : List (DataW H)}, All2 (fun y d => WOk P e d → ok y) ys es → (∀ k ∈ DataW.weightsAll P e es, k ≤ reachBytes) → ∀ y ∈ ys, ok y
  | [], [], _, _, y, hy => by simp at hy
  | y :: ys, d :: es, h, hw, z, hz => by
    simp only [DataW.weightsAll, List.mem_append] at hw
    rcases List.mem_cons.1 hz with rfl | hz
    · exact h.1 fun k hk => hw k (.inl hk)
    · exact all2_ok h.2 (fun k hk => hw k (.inr hk)) z hz
  | [], _ :: _, h, _, _, _ => h.elim
  | _ :: _, [], h, _, _, _ => h.elim
theorem slOf_ok {α : Type} {ok : α → Prop} {ys : List α} {d : DataW H} (ht : P.underlying t = some (.slice e)) (h : SlOf (fun y d => WOk P e d → ok y) d ys) (hw : WOk P t d) : ys.length * P.bytesOf e ≤ reachBytes ∧ ∀ y ∈ ys, ok y := by
  rcases h with ⟨rfl, rfl⟩ | ⟨es, sp, rfl, h⟩
  · simp
  · have hl := h.length
    unfold WOk at hw
    simp only [DataW.weights, ht, List.mem_cons, List.mem_append, forall_eq_or_imp] at hw
    refine ⟨Nat.le_trans (Nat.mul_le_mul_right _ (by omega)) hw.1, all2_ok h fun k hk => hw.2 k (.inl hk)⟩
end
end Go.Amb

set_option linter.unusedSimpArgs false
set_option linter.unusedVariables false
namespace Go.Amb
open Go Go.RowKit

theorem acall_true {P : Program} {f : Nat} {avs : List AV} (h : ACall P f avs (· = .bool true)) {W : World} {vs : List Value} (hv : Vals W noO 0 noPl avs vs []) :
    Calls P f vs.toArray W fun e W' => e = .returned (.bool true) ∧ Below W.heap.size W W' := by
  refine Calls.mono (h.2 W noO vs (by simp [noO]) hv) fun e W' he => ?_
  cases e with
  | returned v =>
    obtain ⟨r, fr, rfl, hv, _, _, hk⟩ := he
    cases hv with
    | bool t =>
      cases t
      exact ⟨rfl, below_of_keeps hk⟩
  | _ => exact he.elim
theorem Tell.slice {W : World} {av : AV} {a : Option Addr} {l c : Nat} (h : Tell W [av] (Value.slice a l c).cells.toList) : Vals W noO 0 noPl [av] [.slice a l c] [] := by
  have := h.1
  simpa [Value.cells] using this
theorem Tell.agg {W : World} {avs : List AV} {cs : Array Value} (h : Tell W avs (Value.agg cs).cells.toList) : Vals W noO 0 noPl [.agg avs] [.agg cs] [] := by
  have h1 : Vals W noO 0 noPl avs cs.toList [] := by simpa [Value.cells] using h.1
  simpa using Vals.agg h.2 h1 .nil
theorem Vals.both {W : World} {a : AV} {v : Value} {avs : List AV} {vs : List Value} (h : Vals W noO 0 noPl [a] [v] []) (hs : Vals W noO 0 noPl avs vs []) : Vals W noO 0 noPl (a :: avs) (v :: vs) [] := h.cons hs
end Go.Amb

namespace Go.Amb
open Go
@[simp] theorem over_cons (H0 H1 : List (Nat × Blk)) (h : Nat → Option Blk) (r : Nat) (b : Blk) (q : Nat) : over H0 ((r, b) :: H1) h q = if q = r then some b else over H0 H1 h q := by
  simp only [over, mkH_cons]
  by_cases hq : q = r <;> simp [hq]
@[simp] theorem over_nil (h : Nat → Option Blk) (q : Nat) : over [] [] h q = h q := by simp [over]
@[simp] theorem over_del (H0 : List (Nat × Blk)) (h : Nat → Option Blk) (r : Nat) (b : Blk) (q : Nat) : over ((r, b) :: H0) [] h q = if q = r then none else over H0 [] h q := by
  simp only [over, mkH_cons, mkH_nil]
  by_cases hq : q = r <;> simp [hq]
end Go.Amb
namespace Go.Amb
@[simp] theorem elemAt_set {es : List AV} {k : Nat} {v : AV} (h : k < es.length) : elemAt (es.set k v) k = v := by
  simp [elemAt, List.getD_eq_getElem?_getD, h]
end Go.Amb
namespace Go.Amb
/-- What of the first i was selected. -/
def sel {α : Type} (p : α → Bool) (f : α → AV) (xs : List α) (i : Nat) : List AV := ((xs.take i).filter p).map f
section
variable {α : Type} {p : α → Bool} {f : α → AV} {xs : List α} {i : Nat} {v : α}
theorem sel_zero : sel p f xs 0 = [] := rfl
theorem sel_yes (h : xs[i]? = some v) (hp : p v = true) : sel p f xs i ++ [f v] = sel p f xs (i + 1) := by simp [sel, List.take_add_one, h, hp]
theorem sel_no (h : xs[i]? = some v) (hp : p v = false) : sel p f xs (i + 1) = sel p f xs i := by simp [sel, List.take_add_one, h, hp]
theorem sel_len : (sel p f xs i).length ≤ i := by
  simp only [sel, List.length_map]
  exact Nat.le_trans (List.length_filter_le _ _) (by simp; omega)
theorem sel_more (h : xs[i]? = some v) (hp : p v = true) : (sel p f xs (i + 1)).length = (sel p f xs i).length + 1 := by
  rw [← sel_yes h hp]; simp
theorem sel_full : sel p f xs xs.length = (xs.filter p).map f := by simp [sel]
end
end Go.Amb

set_option linter.unusedSimpArgs false
set_option linter.unusedVariables false
namespace Go.Amb
open Go

inductive Val where
  | mk (k n : Int) (t : ByteArray) (is : List Val) (ks : List ByteArray)
mutual
def Val.av : Val → AV
  | .mk k n t is ks => .agg [.int .i64 k, .int .i64 n, .str t, .sl .fro (avs is), .sl .fro (ks.map .str)]
def avs : List Val → List AV
  | [] => []
  | v :: vs => v.av :: avs vs
end
mutual
def Val.okv : Val → Prop
  | .mk _ _ _ is ks => is.length * 80 ≤ 140737488355328 ∧ ks.length * 16 ≤ 140737488355328 ∧ okvs is
def okvs : List Val → Prop
  | [] => True
  | v :: vs => v.okv ∧ okvs vs
end
mutual
def Val.sz : Val → Nat
  | .mk _ _ _ is _ => szs is + 1
def szs : List Val → Nat
  | [] => 0
  | v :: vs => v.sz + szs vs
end
theorem vals_map (vs : List Val) : avs vs = vs.map Val.av := by
  induction vs with
  | nil => rfl
  | cons v vs ih => simp [avs, ih]
@[simp] theorem avs_length (vs : List Val) : (avs vs).length = vs.length := by simp [vals_map]
theorem avs_append (a b : List Val) : avs (a ++ b) = avs a ++ avs b := by simp [vals_map]
theorem okvs_mem {vs : List Val} (h : okvs vs) {v : Val} (hv : v ∈ vs) : v.okv := by
  induction vs with
  | nil => simp at hv
  | cons w vs ih =>
    rcases List.mem_cons.1 hv with rfl | hv
    · exact h.1
    · exact ih h.2 hv
theorem okvs_of : ∀ {vs : List Val}, (∀ v ∈ vs, v.okv) → okvs vs
  | [], _ => trivial
  | v :: vs, h => ⟨h v (by simp), okvs_of fun z hz => h z (by simp [hz])⟩
theorem szs_mem {vs : List Val} {v : Val} (hv : v ∈ vs) : v.sz ≤ szs vs := by
  induction vs with
  | nil => simp at hv
  | cons w vs ih =>
    rcases List.mem_cons.1 hv with rfl | hv
    · simp [szs]
    · have := ih hv; simp only [szs]; omega
@[simp] theorem clC_av (v : Val) : clC v.av = v.av := by
  cases v
  simp [Val.av]
@[simp] theorem clC_avs (vs : List Val) : (avs vs).map clC = avs vs := by
  simp [vals_map, Function.comp_def]
@[simp] theorem val_len (v : Val) : (cellsOf v.av).length = 5 := by cases v; simp [Val.av]
theorem av_len (vs : List Val) : ∀ x ∈ avs vs, (cellsOf x).length = 5 := by
  intro x hx
  rw [vals_map, List.mem_map] at hx
  obtain ⟨v, _, rfl⟩ := hx
  exact val_len v
theorem val_one (v : Val) : ∀ c ∈ cellsOf v.av, c.one = true := by cases v; simp [Val.av, AV.one]
theorem val_shr (v : Val) : ∀ c ∈ cellsOf v.av, c.shr = true := by cases v; simp [Val.av, AV.shr, AV.one]
theorem avs_shr (vs : List Val) : ∀ c ∈ flat (avs vs), c.shr = true := by
  intro c hc
  obtain ⟨x, hx, hcx⟩ := List.mem_flatMap.1 hc
  rw [vals_map, List.mem_map] at hx
  obtain ⟨v, _, rfl⟩ := hx
  exact val_shr v c hcx

/-- A copy's slices are its own. -/
def Val.am : Val → AV
  | .mk k n t is ks => .agg [.int .i64 k, .int .i64 n, .str t, .sl (.own 5) (avs is), .sl (.own 1) (ks.map .str)]
@[simp] theorem clC_am (v : Val) : clC v.am = v.av := by
  cases v
  simp [Val.av, Val.am]
mutual
def vW : Val → Nat
  | .mk _ _ _ is ks => vsW is + ks.length + 1
def vsW : List Val → Nat
  | [] => 0
  | v :: vs => vW v + vsW vs
end
theorem vsW_sum : ∀ vs : List Val, vsW vs = (vs.map vW).sum
  | [] => rfl
  | v :: vs => by rw [vsW, vsW_sum vs]; rfl
theorem vW_pos (v : Val) : 1 ≤ vW v := by cases v; simp [vW]
theorem vsW_len : ∀ vs : List Val, vs.length ≤ vsW vs
  | [] => by simp
  | v :: vs => by
    have := vsW_len vs
    have := vW_pos v
    simp only [List.length_cons, vsW]
    omega
mutual
theorem okv_of : ∀ v : Val, vW v ≤ 1048576 → v.okv
  | .mk _ _ _ is ks, h => by
    simp only [vW] at h
    have := vsW_len is
    exact ⟨by omega, by omega, okvs_of' is (by omega)⟩
theorem okvs_of' : ∀ vs : List Val, vsW vs ≤ 1048576 → okvs vs
  | [], _ => trivial
  | v :: vs, h => by
    simp only [vsW] at h
    exact ⟨okv_of v (by omega), okvs_of' vs (by omega)⟩
end
theorem sum_mem {α : Type} {f : α → Nat} : ∀ {l : List α} {x : α}, x ∈ l → f x ≤ (l.map f).sum
  | y :: l, x, h => by
    rcases List.mem_cons.1 h with rfl | h
    · simp
    · have := sum_mem (f := f) h
      rw [List.map_cons, List.sum_cons]
      omega
theorem len_sum {α : Type} {f : α → Nat} (hf : ∀ x, 1 ≤ f x) : ∀ l : List α, l.length ≤ (l.map f).sum
  | [] => by simp
  | y :: l => by
    have h1 := hf y
    have h2 := len_sum hf l
    simp only [List.map_cons, List.sum_cons, List.length_cons]
    omega
end Go.Amb
