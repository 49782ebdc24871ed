/- What the reading of an argument tells is an abstract value. -/
import Derived.Test.YtcccedmhlennmaaDoorA4
import Derived.ChangeArms
import Derived.DataReads
import Derived.DataElems
import Derived.WideShapes
import GoSem.ClaimJoined
import Derived.Below

set_option linter.unusedSimpArgs false
set_option linter.unusedVariables false
namespace Go.Amb
open Go Go.RowKit

/-- Two lists, element by element. -/
def All2 {α β : Type} (G : α → β → Prop) : List α → List β → Prop
  | [], [] => True
  | a :: as, b :: bs => G a b ∧ All2 G as bs
  | _, _ => False
theorem All2.length {α β : Type} {G : α → β → Prop} : ∀ {as : List α} {bs : List β}, All2 G as bs → as.length = bs.length
  | [], [], _ => rfl
  | _ :: as, _ :: bs, h => by simp [All2.length h.2]
  | [], _ :: _, h => h.elim
  | _ :: _, [], h => h.elim
theorem All2.append {α β : Type} {G : α → β → Prop} : ∀ {as : List α} {bs : List β} {a : α} {b : β}, All2 G as bs → G a b → All2 G (as ++ [a]) (bs ++ [b])
  | [], [], _, _, _, h => ⟨h, trivial⟩
  | _ :: as, _ :: bs, _, _, h, g => ⟨h.1, All2.append h.2 g⟩
  | [], _ :: _, _, _, h, _ => h.elim
  | _ :: _, [], _, _, h, _ => h.elim
theorem All2.mem {α β : Type} {G : α → β → Prop} : ∀ {as : List α} {bs : List β}, All2 G as bs → ∀ a ∈ as, ∃ b ∈ bs, G a b
  | [], [], _, a, ha => by simp at ha
  | x :: as, y :: bs, h, a, ha => by
    rcases List.mem_cons.1 ha with rfl | ha
    · exact ⟨y, by simp, h.1⟩
    · obtain ⟨b, hb, hg⟩ := All2.mem h.2 a ha
      exact ⟨b, by simp [hb], hg⟩
  | [], _ :: _, h, _, _ => h.elim
  | _ :: _, [], h, _, _ => h.elim

section
variable {H : Type} {enc : TypeId × Value → H} {P : Program} {w : World} {t e : TypeId} {n : Nat} {cs : List Value} {x : DataW H × List MemPlace}

/-- The cells are what is told by content. -/
def Tell (w : World) (vs : List AV) (cs : List Value) : Prop := Vals w noO 0 noPl vs cs [] ∧ ∀ c ∈ vs, c.one = true
theorem Tell.app {vs vs' : List AV} {cs cs' : List Value} (h : Tell w vs cs) (h' : Tell w vs' cs') : Tell w (vs ++ vs') (cs ++ cs') :=
  ⟨by simpa using h.1.append h'.1, fun c hc => (List.mem_append.1 hc).elim (h.2 c) (h'.2 c)⟩
theorem Tell.nil : Tell w [] [] := ⟨.nil, by simp⟩
theorem tell_int {k : IntKind} (ht : P.underlying t = some (.int k)) (h : DataW.trod enc P w 0 (fun _ => true) true n t cs = some x) : ∃ i, Tell w [.int k i] cs ∧ x.1 = .lit (.int k i) ∧ (Lit.int k i).wf = true := by
  obtain ⟨i, rfl, rfl, hw⟩ := DataW.trod_int ht h
  exact ⟨i, ⟨.int .nil, by simp [AV.one]⟩, rfl, hw⟩
theorem tell_bool (ht : P.underlying t = some .bool) (h : DataW.trod enc P w 0 (fun _ => true) true n t cs = some x) : ∃ b, Tell w [.bool b] cs ∧ x.1 = .lit (.bool b) := by
  obtain ⟨b, rfl, rfl⟩ := DataW.trod_bool ht h
  exact ⟨b, ⟨.bool .nil, by simp [AV.one]⟩, rfl⟩
theorem tell_str (ht : P.underlying t = some .string) (h : DataW.trod enc P w 0 (fun _ => true) true n t cs = some x) : ∃ s : ByteArray, Tell w [.str s] cs ∧ x.1 = .lit (.string s.data.toList) ∧ s.size ≤ maxLen := by
  obtain ⟨s, rfl, rfl, hs⟩ := DataW.trod_string ht h
  exact ⟨s, ⟨.str .nil, by simp [AV.one]⟩, rfl, hs⟩

theorem cell_lt {a : Addr} {v : Value} (h : w.cell? a = some v) : a.block < w.heap.size := by
  unfold World.cell? at h
  split at h
  · rename_i he
    exact (Array.getElem?_eq_some_iff.1 he).1
  · cases h

theorem tell_rows {sz : Nat} {α : Type} (f : α → AV) (G : α → DataW H → Prop) (a : Addr) (r : List Value → Option (DataW H × List MemPlace)) (elems : List (DataW H × List MemPlace))
    (ih : ∀ cs x, r cs = some x → ∃ y, Tell w (cellsOf (f y)) cs ∧ (cellsOf (f y)).length = sz ∧ G y x.1) :
    ∀ len, len ≤ elems.length → (∀ i, i < len → (w.cells? 0 (a.add (i * sz)) sz).bind r = elems[i]?) →
      ∃ (ys : List α) (cc : List Value), ys.length = len ∧ Tell w (flat (ys.map f)) cc ∧ cc.length = len * sz ∧ (∀ k v, cc[k]? = some v → w.cell? (a.add k) = some v) ∧ (∀ y ∈ ys, (cellsOf (f y)).length = sz) ∧ All2 G ys ((elems.take len).map (·.1)) := by
  intro len
  induction len with
  | zero => intro _ _; exact ⟨[], [], rfl, Tell.nil, by simp, by simp, by simp, by simp [All2]⟩
  | succ len ihl =>
    intro hle h
    obtain ⟨ys, cc, h1, h2, h3, h4, h5, h6⟩ := ihl (by omega) (fun i hi => h i (by omega))
    have hl := h len (by omega)
    obtain ⟨el, hel⟩ : ∃ el, elems[len]? = some el := ⟨_, List.getElem?_eq_getElem (by omega)⟩
    rw [hel] at hl
    cases hc : w.cells? 0 (a.add (len * sz)) sz with
    | none => rw [hc] at hl; cases hl
    | some cs =>
      rw [hc] at hl
      obtain ⟨y, hy1, hy2, hy3⟩ := ih cs el hl
      obtain ⟨_, hcl, hcell⟩ := World.cells?_some hc
      refine ⟨ys ++ [y], cc ++ cs, by simp [h1], ?_, ?_, ?_, ?_, ?_⟩
      · rw [List.map_append, flat_append]
        exact h2.app (by simpa [flat] using hy1)
      · rw [List.length_append, h3, hcl, Nat.add_mul]; omega
      · intro k v hk
        rw [List.getElem?_append] at hk
        split at hk
        · exact h4 k v hk
        · have hk' : k - cc.length < cs.length := by
            rcases Nat.lt_or_ge (k - cc.length) cs.length with h | h
            · exact h
            · rw [List.getElem?_eq_none h] at hk; cases hk
          have := hcell (k - cc.length) (by omega)
          rw [hk] at this
          rw [← this]
          rename_i hge
          rw [Addr.add_add]
          congr 2
          omega
      · intro z hz
        rcases List.mem_append.1 hz with hz | hz
        · exact h5 z hz
        · simp at hz; subst hz; exact hy2
      · rw [List.take_add_one, hel]
        simp only [Option.toList_some, List.map_append, List.map_cons, List.map_nil]
        exact h6.append hy3

def SlOf {α : Type} (G : α → DataW H → Prop) (d : DataW H) (ys : List α) : Prop := (d = .nil ∧ ys = []) ∨ ∃ es sp, d = .slice es sp ∧ All2 G ys es
/-- A slice, told by its elements. -/
theorem tell_slice (ht : P.underlying t = some (.slice e)) (hpos : 0 < P.cellsOf e) {α : Type} (f : α → AV) (G : α → DataW H → Prop) (h : DataW.trod enc P w 0 (fun _ => true) true n t cs = some x)
    (ih : ∀ m, m < n → ∀ cs x, DataW.trod enc P w 0 (fun _ => true) true m e cs = some x → ∃ y, Tell w (cellsOf (f y)) cs ∧ (cellsOf (f y)).length = P.cellsOf e ∧ G y x.1) :
    ∃ ys : List α, Tell w [.sl .fro (ys.map f)] cs ∧ ys.length ≤ maxLen ∧ SlOf G x.1 ys := by
  rcases DataW.trod_slice ht h with ⟨rfl, rfl⟩ | ⟨a, len, cap, elems, rest, m, rfl, rfl, rfl, hb, hlc, hcm, hel, hget, -, -⟩
  · exact ⟨[], ⟨.sle rfl (by simp) .nil, by simp [AV.one]⟩, by simp, .inl ⟨rfl, rfl⟩⟩
  · obtain ⟨ys, cc, h1, h2, h3, h4, h5, h6⟩ := tell_rows f G a _ elems (fun cs x hx => ih m (by omega) cs x hx) len (by omega) hget
    refine ⟨ys, ⟨?_, by simp [AV.one]⟩, by omega, .inr ⟨_, _, rfl, ?_⟩⟩
    · cases ys with
      | nil => simp at h1; subst h1; exact .sle rfl (by simp) .nil
      | cons y ys =>
        have hne : len ≠ 0 := by simp at h1; omega
        have hc0 : 0 < cc.length := by rw [h3]; exact Nat.mul_pos (by omega) hpos
        have hcell := h4 0 _ (List.getElem?_eq_getElem hc0)
        have hsp := World.cell?_spot hcell
        have hlt := cell_lt hcell
        obtain ⟨b, p, spot⟩ := a
        have hs : spot = none := by simpa [Addr.add] using hsp
        subst hs
        subst h1
        have := Vals.slf (w := w) (O := noO) (B := 0) (pl := noPl) (k := .fro) (xs := (y :: ys).map f) (b := b) (p := p) (c := cap) (sz := P.cellsOf e) (cs := cc) (vs := []) (us := []) (fp := []) (.inl rfl) (by simp) (by simp [noO]) hlt hpos
          (fun z hz => by
            obtain ⟨q, hq, rfl⟩ := List.mem_map.1 hz
            exact h5 q hq) h2.2 h2.1 (fun k v hk => by have := h4 k v hk; rwa [WideShapes.add_plain] at this) (by simpa using hlc) .nil
        simpa using this
    · have : elems.take len = elems := List.take_of_length_le (by omega)
      rw [this] at h6
      exact h6

/-- The fields lie one behind the other. -/
def contig (P : Program) : Nat → List Field → Nat → Bool
  | o, [], n => o == n
  | o, f :: fs, n => f.offset == o && contig P (o + P.cellsOf f.type) fs n
theorem contig_pieces : ∀ (fs : List Field) (o n : Nat) (cs : List Value), contig P o fs n = true → cs.length = n → cs.drop o = (fs.map fun f => (cs.drop f.offset).take (P.cellsOf f.type)).flatten
  | [], o, n, cs, h, hl => by
    simp [contig] at h
    simp [h, ← hl]
  | f :: fs, o, n, cs, h, hl => by
    simp only [contig, Bool.and_eq_true, beq_iff_eq] at h
    rw [List.map_cons, List.flatten_cons, ← contig_pieces fs _ n cs h.2 hl, h.1, ← List.drop_drop, List.take_append_drop]
/-- Fields, their cells, what is read of them. -/
def Each {H : Type} (r : TypeId → List Value → DataW H → Prop) : List Field → List (List Value) → List (DataW H) → Prop
  | [], [], [] => True
  | f :: fs, c :: cs, d :: ds => r f.type c d ∧ Each r fs cs ds
  | _, _, _ => False
theorem each_cons {r : TypeId → List Value → DataW H → Prop} {f : Field} {fs : List Field} {css : List (List Value)} {ds : List (DataW H)} (h : Each r (f :: fs) css ds) :
    ∃ c css' d ds', css = c :: css' ∧ ds = d :: ds' ∧ r f.type c d ∧ Each r fs css' ds' := by
  cases css <;> cases ds <;> simp [Each] at h
  exact ⟨_, _, _, _, rfl, rfl, h.1, h.2⟩
theorem each_nil {r : TypeId → List Value → DataW H → Prop} {css : List (List Value)} {ds : List (DataW H)} (h : Each r [] css ds) : css = [] ∧ ds = [] := by
  cases css <;> cases ds <;> simp [Each] at h
  exact ⟨rfl, rfl⟩
theorem each_of {m : Nat} (g : Field → List Value) : ∀ (fs : List Field) (xs : List (DataW H × List MemPlace)), xs.length = fs.length → (∀ (i : Nat) (f : Field), fs[i]? = some f → DataW.trod enc P w 0 (fun _ => true) true m f.type (g f) = xs[i]?) →
    Each (fun t c d => ∃ p, DataW.trod enc P w 0 (fun _ => true) true m t c = some (d, p)) fs (fs.map g) (xs.map (·.1))
  | [], [], _, _ => trivial
  | f :: fs, x :: xs, hl, h => ⟨⟨x.2, by simpa using h 0 f rfl⟩, each_of g fs xs (by simpa using hl) fun i f' hf => by simpa using h (i + 1) f' (by simpa using hf)⟩
  | [], _ :: _, hl, _ => by simp at hl
  | _ :: _, [], hl, _ => by simp at hl
theorem tell_fields {fs : Array Field} (ht : P.underlying t = some (.struct fs)) (hc : contig P 0 fs.toList (P.cellsOf t) = true) (h : DataW.trod enc P w 0 (fun _ => true) true n t cs = some x) :
    ∃ (css : List (List Value)) (ds : List (DataW H)) (m : Nat), n = m + 1 ∧ x.1 = .agg ds ∧ cs = css.flatten ∧ Each (fun t c d => ∃ p, DataW.trod enc P w 0 (fun _ => true) true m t c = some (d, p)) fs.toList css ds := by
  obtain ⟨xs, m, rfl, rfl, hl, hxl, hf⟩ := DataW.trod_struct ht h
  refine ⟨fs.toList.map fun f => (cs.drop f.offset).take (P.cellsOf f.type), xs.map (·.1), m, rfl, rfl, ?_, ?_⟩
  · rw [← contig_pieces fs.toList 0 _ cs hc hl]; rfl
  · exact each_of _ fs.toList xs (by simpa using hxl) fun i f hi => hf i f (by simpa using hi)

/-- A measure of what is read. -/
structure BulkOf {H : Type} (B : DataW H → Nat) (BA : List (DataW H) → Nat) : Prop where
  agg : ∀ ps, B (.agg ps) = BA ps + 1
  sl : ∀ es sp, B (.slice es sp) = BA es + BA sp + 1
  nil : BA [] = 0
  cons : ∀ d r, BA (d :: r) = B d + BA r
  one : ∀ d, 1 ≤ B d
  str : ∀ b, B (.lit (.string b)) = b.length + 1
theorem all2_bulk {B : DataW H → Nat} {BA : List (DataW H) → Nat} (hB : BulkOf B BA) {α : Type} {f : α → Nat} : ∀ {ys : List α} {es : List (DataW H)}, All2 (fun y d => f y ≤ B d) ys es → (ys.map f).sum ≤ BA es
  | [], [], _ => by simp [hB.nil]
  | y :: ys, d :: es, h => by
    have h1 := h.1
    have h2 := all2_bulk hB h.2
    rw [hB.cons, List.map_cons, List.sum_cons]
    omega
  | [], _ :: _, h => h.elim
  | _ :: _, [], h => h.elim
theorem slOf_bulk {B : DataW H → Nat} {BA : List (DataW H) → Nat} (hB : BulkOf B BA) {α : Type} {f : α → Nat} {ys : List α} {d : DataW H} (h : SlOf (fun y d => f y ≤ B d) d ys) : (ys.map f).sum + 1 ≤ B d := by
  rcases h with ⟨rfl, rfl⟩ | ⟨es, sp, rfl, h⟩
  · exact hB.one _
  · have := all2_bulk hB h
    rw [hB.sl]
    omega
/-- All that is read has its size. -/
def WOk (P : Program) (t : TypeId) (d : DataW H) : Prop := ∀ k ∈ DataW.weights P t d, k ≤ reachBytes
theorem all2_ok {α : Type} {ok : α → Prop} : ∀ {ys : List α} {es : List (DataW H)}, All2 (fun y d => WOk P e d → ok y) ys es → (∀ k ∈ DataW.weightsAll P e es, k ≤ reachBytes) → ∀ y ∈ ys, ok y
  | [], [], _, _, y, hy => by simp at hy
  | y :: ys, d :: es, h, hw, z, hz => by
    simp only [DataW.weightsAll, List.mem_append] at hw
    rcases List.mem_cons.1 hz with rfl | hz
    · exact h.1 fun k hk => hw k (.inl hk)
    · exact all2_ok h.2 (fun k hk => hw k (.inr hk)) z hz
  | [], _ :: _, h, _, _, _ => h.elim
  | _ :: _, [], h, _, _, _ => h.elim
theorem slOf_ok {α : Type} {ok : α → Prop} {ys : List α} {d : DataW H} (ht : P.underlying t = some (.slice e)) (h : SlOf (fun y d => WOk P e d → ok y) d ys) (hw : WOk P t d) : ys.length * P.bytesOf e ≤ reachBytes ∧ ∀ y ∈ ys, ok y := by
  rcases h with ⟨rfl, rfl⟩ | ⟨es, sp, rfl, h⟩
  · simp
  · have hl := h.length
    unfold WOk at hw
    simp only [DataW.weights, ht, List.mem_cons, List.mem_append, forall_eq_or_imp] at hw
    refine ⟨Nat.le_trans (Nat.mul_le_mul_right _ (by omega)) hw.1, all2_ok h fun k hk => hw.2 k (.inl hk)⟩
end
end Go.Amb

set_option linter.unusedSimpArgs false
set_option linter.unusedVariables false
namespace Go.Amb
open Go Go.RowKit

theorem acall_true {P : Program} {f : Nat} {avs : List AV} (h : ACall P f avs (· = .bool true)) {W : World} {vs : List Value} (hv : Vals W noO 0 noPl avs vs []) :
    Calls P f vs.toArray W fun e W' => e = .returned (.bool true) ∧ Below W.heap.size W W' := by
  refine Calls.mono (h.2 W noO vs (by simp [noO]) hv) fun e W' he => ?_
  cases e with
  | returned v =>
    obtain ⟨r, fr, rfl, hv, _, _, hk⟩ := he
    cases hv with
    | bool t =>
      cases t
      exact ⟨rfl, below_of_keeps hk⟩
  | _ => exact he.elim
theorem Tell.slice {W : World} {av : AV} {a : Option Addr} {l c : Nat} (h : Tell W [av] (Value.slice a l c).cells.toList) : Vals W noO 0 noPl [av] [.slice a l c] [] := by
  have := h.1
  simpa [Value.cells] using this
theorem Tell.agg {W : World} {avs : List AV} {cs : Array Value} (h : Tell W avs (Value.agg cs).cells.toList) : Vals W noO 0 noPl [.agg avs] [.agg cs] [] := by
  have h1 : Vals W noO 0 noPl avs cs.toList [] := by simpa [Value.cells] using h.1
  simpa using Vals.agg h.2 h1 .nil
theorem Vals.both {W : World} {a : AV} {v : Value} {avs : List AV} {vs : List Value} (h : Vals W noO 0 noPl [a] [v] []) (hs : Vals W noO 0 noPl avs vs []) : Vals W noO 0 noPl (a :: avs) (v :: vs) [] := h.cons hs
end Go.Amb

namespace Go.Amb
open Go
@[simp] theorem over_cons (H0 H1 : List (Nat × Blk)) (h : Nat → Option Blk) (r : Nat) (b : Blk) (q : Nat) : over H0 ((r, b) :: H1) h q = if q = r then some b else over H0 H1 h q := by
  simp only [over, mkH_cons]
  by_cases hq : q = r <;> simp [hq]
@[simp] theorem over_nil (h : Nat → Option Blk) (q : Nat) : over [] [] h q = h q := by simp [over]
@[simp] theorem over_del (H0 : List (Nat × Blk)) (h : Nat → Option Blk) (r : Nat) (b : Blk) (q : Nat) : over ((r, b) :: H0) [] h q = if q = r then none else over H0 [] h q := by
  simp only [over, mkH_cons, mkH_nil]
  by_cases hq : q = r <;> simp [hq]
end Go.Amb
namespace Go.Amb
@[simp] theorem elemAt_set {es : List AV} {k : Nat} {v : AV} (h : k < es.length) : elemAt (es.set k v) k = v := by
  simp [elemAt, List.getD_eq_getElem?_getD, h]
end Go.Amb
namespace Go.Amb
/-- What of the first i was selected. -/
def sel {α : Type} (p : α → Bool) (f : α → AV) (xs : List α) (i : Nat) : List AV := ((xs.take i).filter p).map f
section
variable {α : Type} {p : α → Bool} {f : α → AV} {xs : List α} {i : Nat} {v : α}
theorem sel_zero : sel p f xs 0 = [] := rfl
theorem sel_yes (h : xs[i]? = some v) (hp : p v = true) : sel p f xs i ++ [f v] = sel p f xs (i + 1) := by simp [sel, List.take_add_one, h, hp]
theorem sel_no (h : xs[i]? = some v) (hp : p v = false) : sel p f xs (i + 1) = sel p f xs i := by simp [sel, List.take_add_one, h, hp]
theorem sel_len : (sel p f xs i).length ≤ i := by
  simp only [sel, List.length_map]
  exact Nat.le_trans (List.length_filter_le _ _) (by simp; omega)
theorem sel_more (h : xs[i]? = some v) (hp : p v = true) : (sel p f xs (i + 1)).length = (sel p f xs i).length + 1 := by
  rw [← sel_yes h hp]; simp
theorem sel_full : sel p f xs xs.length = (xs.filter p).map f := by simp [sel]
end
end Go.Amb

set_option linter.unusedSimpArgs false
set_option linter.unusedVariables false
namespace Go.Amb
open Go

inductive Val where
  | mk (k n : Int) (t : ByteArray) (is : List Val) (ks : List ByteArray)
mutual
def Val.av : Val → AV
  | .mk k n t is ks => .agg [.int .i64 k, .int .i64 n, .str t, .sl .fro (avs is), .sl .fro (ks.map .str)]
def avs : List Val → List AV
  | [] => []
  | v :: vs => v.av :: avs vs
end
mutual
def Val.okv : Val → Prop
  | .mk _ _ _ is ks => is.length * 80 ≤ 140737488355328 ∧ ks.length * 16 ≤ 140737488355328 ∧ okvs is
def okvs : List Val → Prop
  | [] => True
  | v :: vs => v.okv ∧ okvs vs
end
mutual
def Val.sz : Val → Nat
  | .mk _ _ _ is _ => szs is + 1
def szs : List Val → Nat
  | [] => 0
  | v :: vs => v.sz + szs vs
end
theorem vals_map (vs : List Val) : avs vs = vs.map Val.av := by
  induction vs with
  | nil => rfl
  | cons v vs ih => simp [avs, ih]
@[simp] theorem avs_length (vs : List Val) : (avs vs).length = vs.length := by simp [vals_map]
theorem avs_append (a b : List Val) : avs (a ++ b) = avs a ++ avs b := by simp [vals_map]
theorem okvs_mem {vs : List Val} (h : okvs vs) {v : Val} (hv : v ∈ vs) : v.okv := by
  induction vs with
  | nil => simp at hv
  | cons w vs ih =>
    rcases List.mem_cons.1 hv with rfl | hv
    · exact h.1
    · exact ih h.2 hv
theorem okvs_of : ∀ {vs : List Val}, (∀ v ∈ vs, v.okv) → okvs vs
  | [], _ => trivial
  | v :: vs, h => ⟨h v (by simp), okvs_of fun z hz => h z (by simp [hz])⟩
theorem szs_mem {vs : List Val} {v : Val} (hv : v ∈ vs) : v.sz ≤ szs vs := by
  induction vs with
  | nil => simp at hv
  | cons w vs ih =>
    rcases List.mem_cons.1 hv with rfl | hv
    · simp [szs]
    · have := ih hv; simp only [szs]; omega
@[simp] theorem clC_av (v : Val) : clC v.av = v.av := by
  cases v
  simp [Val.av]
@[simp] theorem clC_avs (vs : List Val) : (avs vs).map clC = avs vs := by
  simp [vals_map, Function.comp_def]
@[simp] theorem val_len (v : Val) : (cellsOf v.av).length = 5 := by cases v; simp [Val.av]
theorem av_len (vs : List Val) : ∀ x ∈ avs vs, (cellsOf x).length = 5 := by
  intro x hx
  rw [vals_map, List.mem_map] at hx
  obtain ⟨v, _, rfl⟩ := hx
  exact val_len v
theorem val_one (v : Val) : ∀ c ∈ cellsOf v.av, c.one = true := by cases v; simp [Val.av, AV.one]
theorem val_shr (v : Val) : ∀ c ∈ cellsOf v.av, c.shr = true := by cases v; simp [Val.av, AV.shr, AV.one]
theorem avs_shr (vs : List Val) : ∀ c ∈ flat (avs vs), c.shr = true := by
  intro c hc
  obtain ⟨x, hx, hcx⟩ := List.mem_flatMap.1 hc
  rw [vals_map, List.mem_map] at hx
  obtain ⟨v, _, rfl⟩ := hx
  exact val_shr v c hcx

/-- A copy's slices are its own. -/
def Val.am : Val → AV
  | .mk k n t is ks => .agg [.int .i64 k, .int .i64 n, .str t, .sl (.own 5) (avs is), .sl (.own 1) (ks.map .str)]
@[simp] theorem clC_am (v : Val) : clC v.am = v.av := by
  cases v
  simp [Val.av, Val.am]
mutual
def vW : Val → Nat
  | .mk _ _ _ is ks => vsW is + ks.length + 1
def vsW : List Val → Nat
  | [] => 0
  | v :: vs => vW v + vsW vs
end
theorem vsW_sum : ∀ vs : List Val, vsW vs = (vs.map vW).sum
  | [] => rfl
  | v :: vs => by rw [vsW, vsW_sum vs]; rfl
theorem vW_pos (v : Val) : 1 ≤ vW v := by cases v; simp [vW]
theorem vsW_len : ∀ vs : List Val, vs.length ≤ vsW vs
  | [] => by simp
  | v :: vs => by
    have := vsW_len vs
    have := vW_pos v
    simp only [List.length_cons, vsW]
    omega
mutual
theorem okv_of : ∀ v : Val, vW v ≤ 1048576 → v.okv
  | .mk _ _ _ is ks, h => by
    simp only [vW] at h
    have := vsW_len is
    exact ⟨by omega, by omega, okvs_of' is (by omega)⟩
theorem okvs_of' : ∀ vs : List Val, vsW vs ≤ 1048576 → okvs vs
  | [], _ => trivial
  | v :: vs, h => by
    simp only [vsW] at h
    exact ⟨okv_of v (by omega), okvs_of' vs (by omega)⟩
end
theorem sum_mem {α : Type} {f : α → Nat} : ∀ {l : List α} {x : α}, x ∈ l → f x ≤ (l.map f).sum
  | y :: l, x, h => by
    rcases List.mem_cons.1 h with rfl | h
    · simp
    · have := sum_mem (f := f) h
      rw [List.map_cons, List.sum_cons]
      omega
theorem len_sum {α : Type} {f : α → Nat} (hf : ∀ x, 1 ≤ f x) : ∀ l : List α, l.length ≤ (l.map f).sum
  | [] => by simp
  | y :: l => by
    have h1 := hf y
    have h2 := len_sum hf l
    simp only [List.map_cons, List.sum_cons, List.length_cons]
    omega
end Go.Amb

set_option linter.unusedSimpArgs false
set_option linter.unusedVariables false
namespace Go.Amb
open Go Go.RowKit

/-- The rows of a root may hold headers and pointers from here on. -/
theorem Fit.opened {t : List (Nat × AV)} {h : Nat → Option Blk} {n : Nat} {u : Nat → Bool} {r : Nat} {b : Blk} (hb : h r = some b) : Fit ⟨mkT t, h, n, u⟩ ⟨mkT t, hupd h r (some { b with box := true }), n, u⟩ := by
  rintro E a w ⟨pl, fp, hR⟩
  generalize hst : (⟨mkT t, h, n, u⟩ : St) = st at hR
  generalize hst' : (⟨mkT t, hupd h r (some { b with box := true }), n, u⟩ : St) = st'
  have hh : st.heap = h := by rw [← hst]
  have hh' : st'.heap = hupd h r (some { b with box := true }) := by rw [← hst']
  have hu : st'.us = st.us := by rw [← hst, ← hst']
  have ht : st'.tmp = st.tmp := by rw [← hst, ← hst']
  have live : ∀ q, (st'.heap q).isSome = (st.heap q).isSome := by
    intro q
    rw [hh', hh]
    unfold hupd
    split
    · rename_i e; subst e; rw [hb]; rfl
    · rfl
  have hO : ∀ x, Own E st' fp x ↔ Own E st fp x := by
    intro x
    unfold Own
    simp only [live]
  have hO' : ∀ x, x < w.heap.size → ¬ Own E st fp x → ¬ Own E st' fp x := fun x _ hx ho => hx ((hO x).1 ho)
  refine ⟨pl, fp, hR.size, hR.defers, hR.plx, by rw [hu]; exact hR.unused, fun q hq => by rw [hu]; exact hR.used q (by rw [← live]; exact hq), by rw [hu]; exact hR.usnb, ?_, fun q hq => hR.nodup q (by rw [← live]; exact hq), fun q hq => hR.own q (by rw [← live]; exact hq),
    fun q q' x hq hq' => hR.disj q q' x (by rw [← live]; exact hq) (by rw [← live]; exact hq'), hR.xold, hR.gold, ?_, hR.keeps⟩
  · intro q blk hq
    rw [hh'] at hq
    unfold hupd at hq
    split at hq
    · rename_i e
      subst e
      injection hq with hq
      subst hq
      have h0 := (hR.roots q b (by rw [hh, hb])).less hO'
      generalize fp q = f at h0 ⊢
      cases h0 with
      | emp h1 he hz => exact .emp h1 he hz
      | blk h1 hr hl hz hu' h1' hn hc ha =>
        refine .blk h1 hr hl hz hu' h1' hn ?_ ha
        cases hbx : b.box
        · rw [hbx] at hc
          exact hc.shift (fun _ _ _ => rfl) (Nat.le_refl _) (fun _ _ h => h) pl (fun _ _ h => by cases h)
        · rw [hbx] at hc
          exact hc
    · exact (hR.roots q blk (by rw [hh]; exact hq)).less hO'
  · intro d hd
    rw [ht] at hd ⊢
    obtain ⟨v, h1, h2⟩ := hR.tmps d hd
    exact ⟨v, h1, h2.shift (fun _ _ _ => rfl) (Nat.le_refl _) hO' _ (fun _ _ h => h)⟩

/-- Holds no header and no pointer. -/
def shutC : AV → Bool
  | .int .. | .bool _ | .str _ | .nilp | .nilf | .nili => true
  | .sl (.own _) _ | .sl .fro _ | .sl .fre _ => true
  | .fn _ [] => true
  | _ => false
theorem Vals.shut {w : World} {O : Nat → Prop} {B : Nat} {pl : Pls} {vs : List AV} {us : List Value} {fp : List Nat} (h : Vals w O B pl vs us fp) : (∀ c ∈ vs, shutC c = true) → Vals w O B noPl vs us fp := by
  induction h with
  | nil => exact fun _ => .nil
  | int t ih => exact fun hc => .int (ih fun c h => hc c (List.mem_cons_of_mem _ h))
  | bool t ih => exact fun hc => .bool (ih fun c h => hc c (List.mem_cons_of_mem _ h))
  | str t ih => exact fun hc => .str (ih fun c h => hc c (List.mem_cons_of_mem _ h))
  | nilp t ih => exact fun hc => .nilp (ih fun c h => hc c (List.mem_cons_of_mem _ h))
  | nilf t ih => exact fun hc => .nilf (ih fun c h => hc c (List.mem_cons_of_mem _ h))
  | nili t ih => exact fun hc => .nili (ih fun c h => hc c (List.mem_cons_of_mem _ h))
  | sle hk h2 t ih => exact fun hc => .sle hk h2 (ih fun c h => hc c (List.mem_cons_of_mem _ h))
  | slf hk hx hb hl hz hu ho hc ha hn t ih1 ih => exact fun hc' => .slf hk hx hb hl hz hu ho hc ha hn (ih fun c h => hc' c (List.mem_cons_of_mem _ h))
  | owe t ih => exact fun hc => .owe (ih fun c h => hc c (List.mem_cons_of_mem _ h))
  | ow hr hl hz hu ho hn hc ha t ih1 ih => exact fun hc' => .ow hr hl hz hu ho hn hc ha (ih fun c h => hc' c (List.mem_cons_of_mem _ h))
  | @fn _ f cs us1 _ _ _ hc t ih1 ih =>
    intro hc'
    have h0 := hc' (.fn f cs) (by simp)
    cases cs with
    | nil => cases hc; exact .fn .nil (ih fun c h => hc' c (List.mem_cons_of_mem _ h))
    | cons c cs => simp [shutC] at h0
  | @slx _ xs _ _ _ _ _ _ _ hx _ _ _ _ _ _ _ _ _ _ =>
    intro hc'
    have h0 := hc' _ (List.mem_cons_self ..)
    simp [shutC] at h0
  | ptr | fptr | hdr | hdre | agg | tup | ifc | grd | mfn =>
    intro hc'
    have h0 := hc' _ (List.mem_cons_self ..)
    simp [shutC] at h0
/-- A root's rows hold no headers: they are closed. -/
theorem Fit.closed {t : List (Nat × AV)} {h : Nat → Option Blk} {n : Nat} {u : Nat → Bool} {r : Nat} {b : Blk} (hb : h r = some b) (hc : ∀ c ∈ flat b.es, shutC c = true) : Fit ⟨mkT t, h, n, u⟩ ⟨mkT t, hupd h r (some { b with box := false }), n, u⟩ := by
  rintro E a w ⟨pl, fp, hR⟩
  generalize hst : (⟨mkT t, h, n, u⟩ : St) = st at hR
  generalize hst' : (⟨mkT t, hupd h r (some { b with box := false }), n, u⟩ : St) = st'
  have hh : st.heap = h := by rw [← hst]
  have hh' : st'.heap = hupd h r (some { b with box := false }) := by rw [← hst']
  have hu : st'.us = st.us := by rw [← hst, ← hst']
  have ht : st'.tmp = st.tmp := by rw [← hst, ← hst']
  have live : ∀ q, (st'.heap q).isSome = (st.heap q).isSome := by
    intro q
    rw [hh', hh]
    unfold hupd
    split
    · rename_i e; subst e; rw [hb]; rfl
    · rfl
  have hO : ∀ x, Own E st' fp x ↔ Own E st fp x := by
    intro x
    unfold Own
    simp only [live]
  have hO' : ∀ x, x < w.heap.size → ¬ Own E st fp x → ¬ Own E st' fp x := fun x _ hx ho => hx ((hO x).1 ho)
  refine ⟨pl, fp, hR.size, hR.defers, hR.plx, by rw [hu]; exact hR.unused, fun q hq => by rw [hu]; exact hR.used q (by rw [← live]; exact hq), by rw [hu]; exact hR.usnb, ?_, fun q hq => hR.nodup q (by rw [← live]; exact hq), fun q hq => hR.own q (by rw [← live]; exact hq),
    fun q q' x hq hq' => hR.disj q q' x (by rw [← live]; exact hq) (by rw [← live]; exact hq'), hR.xold, hR.gold, ?_, hR.keeps⟩
  · intro q blk hq
    rw [hh'] at hq
    unfold hupd at hq
    split at hq
    · rename_i e
      subst e
      injection hq with hq
      subst hq
      have h0 := (hR.roots q b (by rw [hh, hb])).less hO'
      generalize fp q = f at h0 ⊢
      cases h0 with
      | emp h1 he hz => exact .emp h1 he hz
      | blk h1 hr hl hz hu' h1' hn hc' ha => exact .blk h1 hr hl hz hu' h1' hn (hc'.shut hc) ha
    · exact (hR.roots q blk (by rw [hh]; exact hq)).less hO'
  · intro d hd
    rw [ht] at hd ⊢
    obtain ⟨v, h1, h2⟩ := hR.tmps d hd
    exact ⟨v, h1, h2.shift (fun _ _ _ => rfl) (Nat.le_refl _) hO' _ (fun _ _ h => h)⟩

/-- A slice of an open row becomes a root of its own. -/
theorem Fit.thaw {t : List (Nat × AV)} {h : Nat → Option Blk} {n : Nat} {u : Nat → Bool} {r q : Nat} {b : Blk} {A C xs es' : List AV} {sz : Nat} (hb : h r = some b) (hbox : b.box = true) (hq : u q = false) (hsz : 0 < sz)
    (hA : flat b.es = A ++ .sl (.own sz) xs :: C) (hA' : flat es' = A ++ .hdr q 0 xs.length :: C) (hl : es'.length = b.es.length) (hu : ∀ x ∈ es', (cellsOf x).length = b.sz) :
    Fit ⟨mkT t, h, n, u⟩ ⟨mkT t, hupd (hupd h r (some { b with es := es' })) q (some ⟨sz, false, xs⟩), n, uupd u q⟩ := by
  rintro E a w ⟨pl, fp, hR⟩
  generalize hst : (⟨mkT t, h, n, u⟩ : St) = st at hR
  generalize hst' : (⟨mkT t, hupd (hupd h r (some { b with es := es' })) q (some ⟨sz, false, xs⟩), n, uupd u q⟩ : St) = st'
  have hh : st.heap = h := by rw [← hst]
  have hh' : st'.heap = hupd (hupd h r (some { b with es := es' })) q (some ⟨sz, false, xs⟩) := by rw [← hst']
  have hus : st.us = u := by rw [← hst]
  have hus' : st'.us = uupd u q := by rw [← hst']
  have ht : st'.tmp = st.tmp := by rw [← hst, ← hst']
  have hrl : (st.heap r).isSome = true := by rw [hh, hb]; rfl
  have hru : u r = true := by rw [← hus]; exact hR.used r hrl
  have hqr : q ≠ r := fun e => by rw [e, hru] at hq; cases hq
  have hql : (st.heap q).isSome = false := by
    cases e : (st.heap q).isSome
    · rfl
    · have := hR.used q e; rw [hus, hq] at this; cases this
  have hplq : pl q = none := hR.unused q (by rw [hus]; exact hq)
  have live : ∀ x, (st'.heap x).isSome = true → x = q ∨ (st.heap x).isSome = true := by
    intro x hx
    rw [hh'] at hx
    unfold hupd at hx
    split at hx
    · exact .inl ‹_›
    · split at hx
      · rename_i e; subst e; exact .inr hrl
      · exact .inr (by rw [hh]; exact hx)
  have live2 : ∀ x, (st.heap x).isSome = true → x ≠ q ∧ (st'.heap x).isSome = true := by
    intro x hx
    have hxq : x ≠ q := fun e => by rw [e, hql] at hx; cases hx
    refine ⟨hxq, ?_⟩
    rw [hh']
    unfold hupd
    rw [if_neg hxq]
    split
    · rfl
    · rw [← hh]; exact hx
  have h0 := hR.roots r b (by rw [hh, hb])
  rcases h0.inv with ⟨_, ⟨j, _, he, _⟩ | ⟨b0, j, cap, cs, fp1, e1, hr, hlt, hub, h1b, hn, hc, ha, hf⟩⟩
  · rw [he] at hA; simp [flat] at hA
  rw [hA, hbox] at hc
  simp only [if_true] at hc
  obtain ⟨csA, cs2, fA, f2, rfl, rfl, hvA, hv2⟩ := hc.unappend
  obtain ⟨u1, csC, f3, f4, rfl, rfl, hv1, hvC⟩ := hv2.uncons
  obtain ⟨p, hp⟩ : ∃ p : Pl, ∀ (O : Nat → Prop) (pl' : Pls), pl' q = some p → (∀ x, x < w.heap.size → ¬ Own E st fp x → ¬ O x) → RootRel w O E.w0.heap.size pl' q ⟨sz, false, xs⟩ f3 ∧ Vals w O E.w0.heap.size pl' [.hdr q 0 xs.length] [u1] [] := by
    cases hv1 with
    | sle hk _ _ => cases hk
    | slf hk _ _ _ _ _ _ _ _ _ _ => rcases hk with e | e <;> cases e
    | owe t' =>
      cases t'
      exact ⟨⟨none, 0, sz, 0⟩, fun O pl' e _ => ⟨.emp e rfl hsz, .hdre e .nil⟩⟩
    | @ow _ _ _ b1 j1 cap1 cs1 fp2 _ _ _ hr1 hl1 hz1 hu1 h11 hn1 hc1 ha1 t' =>
      cases t'
      refine ⟨⟨some b1, j1, sz, cap1⟩, fun O pl' e hO => ⟨?_, ?_⟩⟩
      · have := RootRel.blk (w := w) (O := O) (B := E.w0.heap.size) (pl := pl') (r := q) (blk := ⟨sz, false, xs⟩) e hr1 hl1 hz1 hu1 h11 hn1 (hc1.shift (fun _ _ _ => rfl) (Nat.le_refl _) hO noPl (fun _ _ h => h)) ha1
        simpa using this
      · have := Vals.hdr (w := w) (O := O) (B := E.w0.heap.size) (pl := pl') (r := q) (off := 0) (len := xs.length) e (by omega) (.inl rfl) .nil
        simpa using this
  let pl' : Pls := fun x => if x = q then some p else pl x
  let fp' : Nat → List Nat := fun x => if x = q then f3 else if x = r then b0 :: (fA ++ f4) else fp x
  have hpl : ∀ x y, pl x = some y → pl' x = some y := by
    intro x y hx
    show (if x = q then some p else pl x) = some y
    rw [if_neg (fun e => by rw [e, hplq] at hx; cases hx)]
    exact hx
  have fq : fp' q = f3 := if_pos rfl
  have fr : fp' r = b0 :: (fA ++ f4) := by show (if r = q then _ else _) = _; rw [if_neg (fun e => hqr e.symm), if_pos rfl]
  have fo : ∀ x, x ≠ q → x ≠ r → fp' x = fp x := fun x h1 h2 => by show (if x = q then _ else _) = _; rw [if_neg h1, if_neg h2]
  have hsub : ∀ x, (st'.heap x).isSome = true → ∀ y ∈ fp' x, ∃ z, (st.heap z).isSome = true ∧ y ∈ fp z ∧ (x = z ∨ (x = q ∧ z = r)) := by
    intro x hx y hy
    by_cases e1 : x = q
    · subst e1
      rw [fq] at hy
      exact ⟨r, hrl, by rw [hf]; simp [hy], .inr ⟨rfl, rfl⟩⟩
    · by_cases e2 : x = r
      · subst e2
        rw [fr] at hy
        refine ⟨x, hrl, ?_, .inl rfl⟩
        rw [hf]
        simp only [List.mem_cons, List.mem_append] at hy ⊢
        rcases hy with h | h | h
        · exact .inl h
        · exact .inr (.inl h)
        · exact .inr (.inr (.inr h))
      · rw [fo x e1 e2] at hy
        exact ⟨x, (live x hx).resolve_left e1, hy, .inl rfl⟩
  have hO : ∀ x, x < w.heap.size → ¬ Own E st fp x → ¬ Own E st' fp' x := by
    intro x _ hx ho
    rcases ho with ho | ⟨y, hy, hxy⟩
    · exact hx (.inl ho)
    · obtain ⟨z, hz, hxz, _⟩ := hsub y hy x hxy
      exact hx (.inr ⟨z, hz, hxz⟩)
  have hnd := hR.nodup r hrl
  rw [hf] at hnd
  have hp2 := hp (Own E st' fp') pl' (if_pos rfl) hO
  refine ⟨pl', fp', hR.size, hR.defers, ?_, ?_, ?_, ?_, ?_, ?_, ?_, ?_, hR.xold, hR.gold, ?_, hR.keeps⟩
  · intro x hx
    show (if x = q then _ else _) = _
    rw [if_neg (fun e => by have := hR.usnb x hx; rw [e, hus, hq] at this; cases this)]
    exact hR.plx x hx
  · intro x hx
    rw [hus'] at hx
    unfold uupd at hx
    split at hx
    · cases hx
    · rename_i e
      show (if x = q then _ else _) = _
      rw [if_neg e]
      exact hR.unused x (by rw [hus]; exact hx)
  · intro x hx
    rw [hus']
    unfold uupd
    split
    · rfl
    · rw [← hus]; exact hR.used x ((live x hx).resolve_left ‹_›)
  · intro x hx
    rw [hus']
    unfold uupd
    split
    · rfl
    · rw [← hus]; exact hR.usnb x hx
  · intro x blk hx
    rw [hh'] at hx
    unfold hupd at hx
    split at hx
    · rename_i e
      subst e
      injection hx with hx
      subst hx
      rw [fq]
      exact hp2.1
    · rename_i e
      split at hx
      · rename_i e'
        subst e'
        injection hx with hx
        subst hx
        rw [fr]
        refine .blk (hpl _ _ e1) hr hlt h0.inv.1 hu ?_ (by simpa [hl] using hn) ?_ (cs := csA ++ u1 :: csC) ha
        · intro y hy
          simp only [hA', List.mem_append, List.mem_cons] at hy
          rcases hy with hy | rfl | hy
          · exact h1b y (by rw [hA]; simp [hy])
          · rfl
          · exact h1b y (by rw [hA]; simp [hy])
        · simp only [hbox, if_true]
          rw [hA']
          refine (hvA.shift (fun _ _ _ => rfl) (Nat.le_refl _) hO pl' hpl).append ?_
          have := hp2.2.append (hvC.shift (fun _ _ _ => rfl) (Nat.le_refl _) hO pl' hpl)
          simpa using this
      · rename_i e'
        rw [fo x e e']
        have := hR.roots x blk (by rw [hh]; exact hx)
        exact (this.to (fun _ _ _ => rfl) (Nat.le_refl _) hO hpl)
  · intro x hx
    by_cases e1 : x = q
    · subst e1
      rw [fq]
      exact (List.nodup_append.1 (List.nodup_append.1 (List.nodup_cons.1 hnd).2).2.1).1
    · by_cases e2 : x = r
      · subst e2
        rw [fr]
        exact List.Nodup.sublist (List.Sublist.cons_cons _ ((List.Sublist.refl _).append (List.sublist_append_right _ _))) hnd
      · rw [fo x e1 e2]
        exact hR.nodup x ((live x hx).resolve_left e1)
  · intro x hx y hy
    obtain ⟨z, hz, hyz, _⟩ := hsub x hx y hy
    exact hR.own z hz y hyz
  · intro x x' y hx hx' hne hy hy'
    obtain ⟨z, hz, hyz, hzx⟩ := hsub x hx y hy
    obtain ⟨z', hz', hyz', hzx'⟩ := hsub x' hx' y hy'
    by_cases e : z = z'
    · subst e
      have hdis : ∀ k, k ∈ f3 → k ∉ b0 :: (fA ++ f4) := by
        intro k hk hk'
        rw [List.nodup_cons, List.nodup_append, List.nodup_append] at hnd
        simp only [List.mem_cons, List.mem_append] at hk'
        rcases hk' with e | h | h
        · rw [e] at hk
          exact hnd.1 (List.mem_append_right _ (List.mem_append_left _ hk))
        · exact hnd.2.2.2 k h k (List.mem_append_left _ hk) rfl
        · exact hnd.2.2.1.2.2 k hk k h rfl
      rcases hzx with rfl | ⟨rfl, rfl⟩ <;> rcases hzx' with rfl | ⟨rfl, hzr⟩
      · exact hne rfl
      · subst hzr
        rw [fr] at hy
        rw [fq] at hy'
        exact hdis y hy' hy
      · rw [fq] at hy
        rw [fr] at hy'
        exact hdis y hy hy'
      · exact hne rfl
    · exact hR.disj z z' y hz hz' e hyz hyz'
  · intro d hd
    rw [ht] at hd ⊢
    obtain ⟨v, h1, h2⟩ := hR.tmps d hd
    exact ⟨v, h1, h2.shift (fun _ _ _ => rfl) (Nat.le_refl _) hO pl' hpl⟩

theorem at_take {w : World} {b p : Nat} {cs cs' : List Value} (h : At w b p (cs ++ cs')) : At w b p cs := fun k v hk => h k v (by
  rw [List.getElem?_append_left (List.getElem?_eq_some_iff.1 hk).1, hk])
/-- A root goes back into the open row that holds its header. -/
theorem Fit.back {t : List (Nat × AV)} {h : Nat → Option Blk} {n : Nat} {u : Nat → Bool} {r q : Nat} {b : Blk} {A C xs es' : List AV} {sz len : Nat} (hb : h r = some b) (hbox : b.box = true) (hq : h q = some ⟨sz, false, xs⟩) (hqr : q ≠ r) (hlen : len ≤ xs.length)
    (hA : flat b.es = A ++ .hdr q 0 len :: C) (hA' : flat es' = A ++ .sl (.own sz) (xs.take len) :: C) (hl : es'.length = b.es.length) (hu : ∀ x ∈ es', (cellsOf x).length = b.sz) :
    Fit ⟨mkT t, h, n, u⟩ ⟨mkT t, hupd (hupd h r (some { b with es := es' })) q none, n, u⟩ := by
  rintro E a w ⟨pl, fp, hR⟩
  generalize hst : (⟨mkT t, h, n, u⟩ : St) = st at hR
  generalize hst' : (⟨mkT t, hupd (hupd h r (some { b with es := es' })) q none, n, u⟩ : St) = st'
  have hh : st.heap = h := by rw [← hst]
  have hh' : st'.heap = hupd (hupd h r (some { b with es := es' })) q none := by rw [← hst']
  have hus' : st'.us = st.us := by rw [← hst, ← hst']
  have ht : st'.tmp = st.tmp := by rw [← hst, ← hst']
  have hrl : (st.heap r).isSome = true := by rw [hh, hb]; rfl
  have hql : (st.heap q).isSome = true := by rw [hh, hq]; rfl
  have live : ∀ x, (st'.heap x).isSome = true → x ≠ q ∧ (st.heap x).isSome = true := by
    intro x hx
    rw [hh'] at hx
    unfold hupd at hx
    split at hx
    · simp at hx
    · rename_i e
      refine ⟨e, ?_⟩
      split at hx
      · rename_i e; subst e; exact hrl
      · rw [hh]; exact hx
  have h0 := hR.roots r b (by rw [hh, hb])
  rcases h0.inv with ⟨_, ⟨j, _, he, _⟩ | ⟨b0, j, cap, cs, fp1, e1, hr, hlt, hub, h1b, hn, hc, ha, hf⟩⟩
  · rw [he] at hA; simp [flat] at hA
  rw [hA, hbox] at hc
  simp only [if_true] at hc
  obtain ⟨csA, cs2, fA, f2, rfl, rfl, hvA, hv2⟩ := hc.unappend
  obtain ⟨u1, csC, f3, f4, rfl, rfl, hv1, hvC⟩ := hv2.uncons
  have hqroot := hR.roots q _ (by rw [hh, hq])
  obtain ⟨rfl, f', hf', hown⟩ : f3 = [] ∧ ∃ f', f'.Sublist (fp q) ∧ ∀ (O : Nat → Prop), (∀ x, x < w.heap.size → ¬ Own E st fp x → ¬ O x) → Vals w O E.w0.heap.size pl [.sl (.own sz) (xs.take len)] [u1] f' := by
    rcases hqroot.inv with ⟨hsz, ⟨j1, e2, he2, hfq⟩ | ⟨b1, j1, cap1, cs1, fpx, e2, hr1, hl1, hu1, h11, hn1, hc1, ha1, hfq⟩⟩
    · dsimp only at he2
      subst he2
      have hl0 : len = 0 := by simpa using hlen
      subst hl0
      cases hv1 with
      | hdr e3 _ _ t' => rw [e2] at e3; cases e3
      | hdre _ t' => cases t'; exact ⟨rfl, [], List.nil_sublist _, fun O _ => by simpa using Vals.owe (w := w) (O := O) (B := E.w0.heap.size) (pl := pl) (sz := sz) .nil⟩
    · dsimp only at hu1 h11 hn1 hc1 hr1 ha1 hsz
      cases hv1 with
      | hdre e3 t' => rw [e2] at e3; cases e3
      | @hdr _ _ _ _ b2 j2 sz2 cap2 A2 _ _ _ e3 hn2 hA2 t' =>
        cases t'
        rw [e2] at e3
        injection e3 with e3
        injection e3 with e4 e5 e6 e7
        injection e4 with e4
        subst e4 e5 e6 e7
        refine ⟨rfl, ?_⟩
        rcases hA2 with hA2 | hA2
        · have hx : flat xs = flat (xs.take len) ++ flat (xs.drop len) := by rw [← flat_append, List.take_append_drop]
          rw [hx] at hc1
          simp only [Bool.false_eq_true, if_false] at hc1
          obtain ⟨csT, csD, fT, fD, rfl, rfl, hvT, _⟩ := hc1.unappend
          refine ⟨b1 :: fT, by rw [hfq]; exact List.Sublist.cons_cons _ (List.sublist_append_left _ _), fun O hO => ?_⟩
          have hlt' : (xs.take len).length = len := by simp; omega
          have := Vals.ow (w := w) (O := O) (B := E.w0.heap.size) (pl := pl) (sz := sz) (xs := xs.take len) hr1 hl1 hsz (fun x hx => hu1 x (List.mem_of_mem_take hx)) (fun x hx' => h11 x (by rw [hx]; exact List.mem_append_left _ hx')) (by omega)
            (hvT.shift (fun _ _ _ => rfl) (Nat.le_refl _) hO noPl (fun _ _ h => h)) (at_take ha1) .nil
          rw [hlt'] at this
          simpa [hA2] using this
        · subst hA2
          have hl0 : len = 0 := by omega
          subst hl0
          exact ⟨[], List.nil_sublist _, fun O _ => by simpa using Vals.owe (w := w) (O := O) (B := E.w0.heap.size) (pl := pl) (sz := sz) .nil⟩
  let fp' : Nat → List Nat := fun x => if x = r then b0 :: (fA ++ (f' ++ f4)) else fp x
  have fr : fp' r = b0 :: (fA ++ (f' ++ f4)) := if_pos rfl
  have fo : ∀ x, x ≠ r → fp' x = fp x := fun x h2 => if_neg h2
  have hsub : ∀ x, (st'.heap x).isSome = true → ∀ y ∈ fp' x, ∃ z, (st.heap z).isSome = true ∧ y ∈ fp z ∧ (x = z ∨ (x = r ∧ z = q)) := by
    intro x hx y hy
    obtain ⟨hxq, hxl⟩ := live x hx
    by_cases e2 : x = r
    · subst e2
      rw [fr] at hy
      simp only [List.mem_cons, List.mem_append] at hy
      rcases hy with h | h | h | h
      · exact ⟨x, hrl, by rw [hf]; simp [h], .inl rfl⟩
      · exact ⟨x, hrl, by rw [hf]; simp [h], .inl rfl⟩
      · exact ⟨q, hql, hf'.subset h, .inr ⟨rfl, rfl⟩⟩
      · exact ⟨x, hrl, by rw [hf]; simp [h], .inl rfl⟩
    · rw [fo x e2] at hy
      exact ⟨x, hxl, hy, .inl rfl⟩
  have hO : ∀ x, x < w.heap.size → ¬ Own E st fp x → ¬ Own E st' fp' x := by
    intro x _ hx ho
    rcases ho with ho | ⟨y, hy, hxy⟩
    · exact hx (.inl ho)
    · obtain ⟨z, hz, hxz, _⟩ := hsub y hy x hxy
      exact hx (.inr ⟨z, hz, hxz⟩)
  have hnd := hR.nodup r hrl
  rw [hf] at hnd
  have hndq := hR.nodup q hql
  have hdqr : ∀ y, y ∈ fp q → y ∉ fp r := fun y hy => hR.disj q r y hql hrl hqr hy
  refine ⟨pl, fp', hR.size, hR.defers, hR.plx, by rw [hus']; exact hR.unused, fun x hx => by rw [hus']; exact hR.used x (live x hx).2, by rw [hus']; exact hR.usnb, ?_, ?_, ?_, ?_, hR.xold, hR.gold, ?_, hR.keeps⟩
  · intro x blk hx
    rw [hh'] at hx
    unfold hupd at hx
    split at hx
    · cases hx
    · rename_i e
      split at hx
      · rename_i e'
        subst e'
        injection hx with hx
        subst hx
        rw [fr]
        refine .blk e1 hr hlt h0.inv.1 hu ?_ (by simpa [hl] using hn) ?_ (cs := csA ++ u1 :: csC) ha
        · intro y hy
          simp only [hA', List.mem_append, List.mem_cons] at hy
          rcases hy with hy | rfl | hy
          · exact h1b y (by rw [hA]; simp [hy])
          · rfl
          · exact h1b y (by rw [hA]; simp [hy])
        · simp only [hbox, if_true]
          rw [hA']
          refine (hvA.shift (fun _ _ _ => rfl) (Nat.le_refl _) hO pl (fun _ _ h => h)).append ?_
          have := (hown _ hO).append (hvC.shift (fun _ _ _ => rfl) (Nat.le_refl _) hO pl (fun _ _ h => h))
          simpa using this
      · rename_i e'
        rw [fo x e']
        exact (hR.roots x blk (by rw [hh]; exact hx)).less hO
  · intro x hx
    by_cases e2 : x = r
    · subst e2
      rw [fr]
      have h1 := List.nodup_cons.1 hnd
      simp only [List.nil_append] at h1 hf
      obtain ⟨hnA, hnC, hAC⟩ := List.nodup_append.1 h1.2
      have hnf := hf'.nodup hndq
      have hin : ∀ y, y ∈ f' → y ≠ b0 ∧ y ∉ fA ∧ y ∉ f4 := fun y hy => by
        have := hdqr y (hf'.subset hy)
        rw [hf] at this
        simp only [List.mem_cons, List.mem_append, not_or] at this
        exact this
      rw [List.nodup_cons, List.nodup_append, List.nodup_append]
      refine ⟨?_, hnA, ⟨hnf, hnC, fun a ha' c hc' e => (hin a ha').2.2 (e ▸ hc')⟩, fun a ha' c hc' e => ?_⟩
      · simp only [List.mem_append, not_or]
        have := h1.1
        simp only [List.mem_append, not_or] at this
        exact ⟨this.1, fun hy => (hin b0 hy).1 rfl, this.2⟩
      · subst e
        rcases List.mem_append.1 hc' with hc' | hc'
        · exact (hin a hc').2.1 ha'
        · exact hAC a ha' a hc' rfl
    · rw [fo x e2]
      exact hR.nodup x (live x hx).2
  · intro x hx y hy
    obtain ⟨z, hz, hyz, _⟩ := hsub x hx y hy
    exact hR.own z hz y hyz
  · intro x x' y hx hx' hne hy hy'
    obtain ⟨z, hz, hyz, hzx⟩ := hsub x hx y hy
    obtain ⟨z', hz', hyz', hzx'⟩ := hsub x' hx' y hy'
    by_cases e : z = z'
    · subst e
      rcases hzx with rfl | ⟨rfl, rfl⟩ <;> rcases hzx' with e2 | ⟨rfl, e3⟩
      · exact hne e2.symm
      · exact (live x hx).1 e3
      · exact (live x' hx').1 e2
      · exact hne rfl
    · exact hR.disj z z' y hz hz' e hyz hyz'
  · intro d hd
    rw [ht] at hd ⊢
    obtain ⟨v, h1, h2⟩ := hR.tmps d hd
    exact ⟨v, h1, h2.shift (fun _ _ _ => rfl) (Nat.le_refl _) hO _ (fun _ _ h => h)⟩

/-- What a root holds is told with less ownership, or shorter. -/
theorem Fit.lessOwn {t : List (Nat × AV)} {h : Nat → Option Blk} {n : Nat} {u : Nat → Bool} {r : Nat} {b b' : Blk} (hb : h r = some b)
    (hr : ∀ (w : World) (O : Nat → Prop) (B : Nat) (pl : Pls) (f : List Nat), f.Nodup → RootRel w O B pl r b f → ∃ f', f'.Sublist f ∧ ∀ O' : Nat → Prop, (∀ x, x < w.heap.size → ¬ O x → ¬ O' x) → (∀ x, x ∈ f → x ∉ f' → ¬ O' x) → RootRel w O' B pl r b' f') :
    Fit ⟨mkT t, h, n, u⟩ ⟨mkT t, hupd h r (some b'), n, u⟩ := by
  rintro E a w ⟨pl, fp, hR⟩
  generalize hst : (⟨mkT t, h, n, u⟩ : St) = st at hR
  generalize hst' : (⟨mkT t, hupd h r (some b'), n, u⟩ : St) = st'
  have hh : st.heap = h := by rw [← hst]
  have hh' : st'.heap = hupd h r (some b') := by rw [← hst']
  have hu : st'.us = st.us := by rw [← hst, ← hst']
  have ht : st'.tmp = st.tmp := by rw [← hst, ← hst']
  have hrl : (st.heap r).isSome = true := by rw [hh, hb]; rfl
  have live : ∀ q, (st'.heap q).isSome = (st.heap q).isSome := by
    intro q
    rw [hh', hh]
    unfold hupd
    split
    · rename_i e; subst e; rw [hb]; rfl
    · rfl
  obtain ⟨f', hf', hroot⟩ := hr w _ _ pl _ (hR.nodup r hrl) (hR.roots r b (by rw [hh, hb]))
  let fp' : Nat → List Nat := fun x => if x = r then f' else fp x
  have fr : fp' r = f' := if_pos rfl
  have fo : ∀ x, x ≠ r → fp' x = fp x := fun x h2 => if_neg h2
  have hsub : ∀ x, ∀ y ∈ fp' x, y ∈ fp x := by
    intro x y hy
    by_cases e2 : x = r
    · subst e2
      rw [fr] at hy
      exact hf'.subset hy
    · rw [fo x e2] at hy
      exact hy
  have hO : ∀ x, x < w.heap.size → ¬ Own E st fp x → ¬ Own E st' fp' x := by
    intro x _ hx ho
    rcases ho with ho | ⟨y, hy, hxy⟩
    · exact hx (.inl ho)
    · exact hx (.inr ⟨y, by rw [← live]; exact hy, hsub y x hxy⟩)
  have hout : ∀ x, x ∈ fp r → x ∉ f' → ¬ Own E st' fp' x := by
    intro x hx hx' ho
    rcases ho with ho | ⟨y, hy, hxy⟩
    · exact (hR.own r hrl x hx).2.2 ho
    · by_cases e : y = r
      · subst e
        rw [fr] at hxy
        exact hx' hxy
      · rw [fo y e] at hxy
        exact hR.disj r y x hrl (by rw [← live]; exact hy) (fun e' => e e'.symm) hx hxy
  refine ⟨pl, fp', hR.size, hR.defers, hR.plx, by rw [hu]; exact hR.unused, fun q hq => by rw [hu]; exact hR.used q (by rw [← live]; exact hq), by rw [hu]; exact hR.usnb, ?_, ?_, fun q hq y hy => hR.own q (by rw [← live]; exact hq) y (hsub q y hy),
    fun q q' x hq hq' hne hx hx' => hR.disj q q' x (by rw [← live]; exact hq) (by rw [← live]; exact hq') hne (hsub q x hx) (hsub q' x hx'), hR.xold, hR.gold, ?_, hR.keeps⟩
  · intro q blk hq
    rw [hh'] at hq
    unfold hupd at hq
    split at hq
    · rename_i e
      subst e
      injection hq with hq
      subst hq
      rw [fr]
      exact hroot _ hO hout
    · rename_i e
      rw [fo q e]
      exact (hR.roots q blk (by rw [hh]; exact hq)).less hO
  · intro q hq
    by_cases e2 : q = r
    · subst e2
      rw [fr]
      exact hf'.nodup (hR.nodup q hrl)
    · rw [fo q e2]
      exact hR.nodup q (by rw [← live]; exact hq)
  · intro d hd
    rw [ht] at hd ⊢
    obtain ⟨v, h1, h2⟩ := hR.tmps d hd
    exact ⟨v, h1, h2.shift (fun _ _ _ => rfl) (Nat.le_refl _) hO _ (fun _ _ h => h)⟩
/-- A slice within a root becomes read-only for good. -/
theorem Fit.chill {t : List (Nat × AV)} {h : Nat → Option Blk} {n : Nat} {u : Nat → Bool} {r : Nat} {b : Blk} {A C xs es' : List AV} {sz : Nat} (hb : h r = some b)
    (hA : flat b.es = A ++ .sl (.own sz) xs :: C) (hA' : flat es' = A ++ .sl .fro (xs.map clC) :: C) (hl : es'.length = b.es.length) (hu : ∀ x ∈ es', (cellsOf x).length = b.sz) :
    Fit ⟨mkT t, h, n, u⟩ ⟨mkT t, hupd h r (some { b with es := es' }), n, u⟩ := by
  refine Fit.lessOwn hb fun w O B pl f hnd hr => ?_
  rcases hr.inv with ⟨hz, ⟨j, _, he, _⟩ | ⟨b0, j, cap, cs, fp1, e1, hr1, hlt, hub, h1b, hn, hc, ha, rfl⟩⟩
  · rw [he] at hA; simp [flat] at hA
  rw [hA] at hc
  obtain ⟨csA, cs2, fA, f2, rfl, rfl, hvA, hv2⟩ := hc.unappend
  obtain ⟨u1, csC, f3, f4, rfl, rfl, hv1, hvC⟩ := hv2.uncons
  refine ⟨b0 :: (fA ++ f4), List.Sublist.cons_cons _ ((List.Sublist.refl _).append (List.sublist_append_right _ _)), fun O' hO hout => ?_⟩
  have hdis : ∀ k, k ∈ f3 → k ∉ b0 :: (fA ++ f4) := by
    intro k hk hk'
    rw [List.nodup_cons, List.nodup_append, List.nodup_append] at hnd
    simp only [List.mem_cons, List.mem_append] at hk'
    rcases hk' with e | h | h
    · rw [e] at hk
      exact hnd.1 (List.mem_append_right _ (List.mem_append_left _ hk))
    · exact hnd.2.2.2 k h k (List.mem_append_left _ hk) rfl
    · exact hnd.2.2.1.2.2 k hk k h rfl
  · have hs := hv1.shut (by intro c hc; simp at hc; subst hc; rfl)
    have h2 := map_vals (fh := nilF) (fq := nilF) (oh := noF) (oq := noF) (pl0 := noPl) (O' := O') (B' := B) nilF_one nilF_one (fun _ _ _ _ h => h.elim) (fun _ _ _ _ h => h.elim) hO hs (.inr rfl) (fun x hx => hout x (by simp [hx]) (hdis x hx))
    have h4 := h2.shift (w' := w) (O' := O') (B' := B) (fun _ _ _ => rfl) (Nat.le_refl _) (fun _ _ h => h) (if b.box then pl else noPl) (fun _ _ h => by cases h)
    have h5 : Vals w O' B (if b.box then pl else noPl) [.sl .fro (xs.map clC)] [u1] [] := by
      simpa [mapAs, mapA, mapAs_eq, clC] using h4
    refine .blk e1 hr1 hlt hz hu ?_ (by simpa [hl] using hn) ?_ (cs := csA ++ u1 :: csC) ha
    · intro y hy
      simp only [hA', List.mem_append, List.mem_cons] at hy
      rcases hy with hy | rfl | hy
      · exact h1b y (by rw [hA]; simp [hy])
      · rfl
      · exact h1b y (by rw [hA]; simp [hy])
    · rw [hA']
      refine (hvA.shift (fun _ _ _ => rfl) (Nat.le_refl _) hO _ (fun _ _ h => h)).append ?_
      have := h5.append (hvC.shift (fun _ _ _ => rfl) (Nat.le_refl _) hO _ (fun _ _ h => h))
      simpa using this
/-- Rows at the end are given up. -/
theorem Fit.cutR {t : List (Nat × AV)} {h : Nat → Option Blk} {n : Nat} {u : Nat → Bool} {r : Nat} {b : Blk} (k : Nat) (hb : h r = some b) : Fit ⟨mkT t, h, n, u⟩ ⟨mkT t, hupd h r (some { b with es := b.es.take k }), n, u⟩ := by
  refine Fit.lessOwn hb fun w O B pl f hnd hr => ?_
  rcases hr.inv with ⟨hz, ⟨j, e1, he, rfl⟩ | ⟨b0, j, cap, cs, fp1, e1, hr1, hlt, hub, h1b, hn, hc, ha, rfl⟩⟩
  · exact ⟨[], List.Sublist.refl _, fun O' hO _ => .emp e1 (by simp [he]) hz⟩
  have hx : flat b.es = flat (b.es.take k) ++ flat (b.es.drop k) := by rw [← flat_append, List.take_append_drop]
  rw [hx] at hc
  obtain ⟨csA, cs2, fA, f2, rfl, rfl, hvA, hv2⟩ := hc.unappend
  refine ⟨b0 :: fA, List.Sublist.cons_cons _ (List.sublist_append_left _ _), fun O' hO _ => ?_⟩
  exact .blk e1 hr1 hlt hz (fun x hx => hub x (List.mem_of_mem_take hx)) (fun x hx' => h1b x (by rw [hx]; exact List.mem_append_left _ hx')) (by simp; omega) (hvA.shift (fun _ _ _ => rfl) (Nat.le_refl _) hO _ (fun _ _ h => h)) (at_take ha)
end Go.Amb

set_option linter.unusedSimpArgs false
set_option linter.unusedVariables false
namespace Go.Amb
open Go Go.RowKit

theorem mkH_append (H1 H2 : List (Nat × Blk)) (q : Nat) : mkH (H1 ++ H2) q = match mkH H1 q with | some b => some b | none => mkH H2 q := by
  induction H1 with
  | nil => rfl
  | cons p l ih =>
    obtain ⟨r, b⟩ := p
    simp only [List.cons_append, mkH_cons]
    split
    · rfl
    · exact ih

/-- Slices owned alone become roots, numbered from N on; all else is frozen. -/
inductive Ad : Nat → List AV → List AV → List (Nat × Blk) → Nat → Prop
  | nil {N} : Ad N [] [] [] N
  | own {N sz xs vs vs' H n'} (h0 : 0 < sz) (t : Ad (N + 1) vs vs' H n') : Ad N (.sl (.own sz) xs :: vs) (.hdr N 0 xs.length :: vs') ((N, ⟨sz, false, xs⟩) :: H) n'
  | cl {N v vs vs' H n'} (t : Ad N vs vs' H n') : Ad N (v :: vs) (clC v :: vs') H n'
  | agg {N cs cs' vs vs' H1 H2 m n'} (h : Ad N cs cs' H1 m) (t : Ad m vs vs' H2 n') : Ad N (.agg cs :: vs) (.agg cs' :: vs') (H1 ++ H2) n'
  | tup {N cs cs' vs vs' H1 H2 m n'} (h : Ad N cs cs' H1 m) (t : Ad m vs vs' H2 n') : Ad N (.tup cs :: vs) (.tup cs' :: vs') (H1 ++ H2) n'

theorem Ad.ones {N n' : Nat} {vs vs' : List AV} {H : List (Nat × Blk)} (h : Ad N vs vs' H n') : (∀ v ∈ vs, v.one = true) → ∀ v ∈ vs', v.one = true := by
  induction h with
  | nil => intro _ v hv; simp at hv
  | own h0 t ih =>
    intro h1 v hv
    rcases List.mem_cons.1 hv with rfl | hv
    · rfl
    · exact ih (fun x hx => h1 x (by simp [hx])) v hv
  | @cl N y vs vs' H n' t ih =>
    intro h1 v hv
    rcases List.mem_cons.1 hv with rfl | hv
    · have := h1 y (by simp)
      rw [clC, mapA_one nilF_one nilF_one]; exact this
    · exact ih (fun x hx => h1 x (by simp [hx])) v hv
  | agg h t _ _ => intro h1; have := h1 _ List.mem_cons_self; simp [AV.one] at this
  | tup h t _ _ => intro h1; have := h1 _ List.mem_cons_self; simp [AV.one] at this

section
variable {w : World}
theorem ad_sound {N n' : Nat} {vs vs' : List AV} {H : List (Nat × Blk)} (h : Ad N vs vs' H n') : ∀ {O : Nat → Prop} {B0 : Nat} {us : List Value} {fr : List Nat}, Vals w O B0 noPl vs us fr → fr.Nodup →
    N ≤ n' ∧ (∀ q, (mkH H q).isSome = true → N ≤ q ∧ q < n') ∧ ∃ (plN : Pls) (fpN : Nat → List Nat),
      (∀ q, (mkH H q).isSome = true → (fpN q).Nodup ∧ ∀ b ∈ fpN q, b ∈ fr) ∧
      (∀ q q' b, (mkH H q).isSome = true → (mkH H q').isSome = true → q ≠ q' → b ∈ fpN q → b ∉ fpN q') ∧
      ∀ (O' : Nat → Prop) (B : Nat) (pl : Pls), (∀ b, b < w.heap.size → ¬ O b → ¬ O' b) → (∀ b ∈ fr, (∀ q, (mkH H q).isSome = true → b ∉ fpN q) → ¬ O' b) → (∀ q p, N ≤ q → q < n' → plN q = some p → pl q = some p) →
        (∀ q blk, mkH H q = some blk → RootRel w O' B pl q blk (fpN q)) ∧ Vals w O' B pl vs' us [] := by
  induction h with
  | nil =>
    intro O B0 us fr hv hnd
    cases hv
    exact ⟨Nat.le_refl _, fun q hq => by simp at hq, noPl, fun _ => [], fun q hq => by simp at hq, fun q q' b hq => by simp at hq, fun O' B pl _ _ _ => ⟨fun q blk hq => by simp at hq, .nil⟩⟩
  | @own N sz xs vs vs' H n' h0 t ih =>
    intro O B0 us fr hv hnd
    obtain ⟨u, us', f1, f2, rfl, rfl, h1, h2⟩ := hv.uncons
    have hnd' := List.nodup_append.1 hnd
    obtain ⟨hle, hk, plN, fpN, c1, c2, c3⟩ := ih h2 hnd'.2.1
    have hneN : ∀ q, (mkH H q).isSome = true → q ≠ N := fun q hq e => by have := (hk q hq).1; omega
    have hlive : ∀ q, (mkH ((N, (⟨sz, false, xs⟩ : Blk)) :: H) q).isSome = true → q = N ∨ (q ≠ N ∧ (mkH H q).isSome = true) := by
      intro q hq
      by_cases e : q = N
      · exact .inl e
      · simp only [mkH_cons, if_neg e] at hq; exact .inr ⟨e, hq⟩
    refine ⟨by omega, ?_, ?_⟩
    · intro q hq
      rcases hlive q hq with rfl | ⟨_, hq⟩
      · exact ⟨Nat.le_refl _, by omega⟩
      · have := hk q hq; exact ⟨by omega, this.2⟩
    obtain ⟨p, hroot, hhdr⟩ : ∃ p : Pl, (∀ (O' : Nat → Prop) (B : Nat) (pl : Pls), (∀ b, b < w.heap.size → ¬ O b → ¬ O' b) → pl N = some p → RootRel w O' B pl N ⟨sz, false, xs⟩ f1) ∧
        ∀ (O' : Nat → Prop) (B : Nat) (pl : Pls), pl N = some p → Vals w O' B pl [.hdr N 0 xs.length] [u] [] := by
      rcases inv_own h1 with ⟨rfl, A, rfl, rfl⟩ | ⟨b, j, cap, cs, fp1, hr, hl, hz, hu, ho, hn, hc, ha, rfl, rfl⟩
      · exact ⟨⟨none, 0, sz, 0⟩, fun O' B pl _ hp => .emp hp rfl h0, fun O' B pl hp => .hdre hp .nil⟩
      · refine ⟨⟨some b, j, sz, cap⟩, fun O' B pl hO hp => ?_, fun O' B pl hp => ?_⟩
        · exact .blk hp hr hl hz hu ho hn (by simpa using hc.shift (fun _ _ _ => rfl) (Nat.le_refl _) hO noPl (fun _ _ h => h)) ha
        · have := Vals.hdr (w := w) (O := O') (B := B) (pl := pl) (off := 0) (len := xs.length) (A := some ⟨b, j * sz, none⟩) hp (by omega) (.inl (by simp)) .nil
          simpa using this
    refine ⟨fun q => if q = N then some p else plN q, fun q => if q = N then f1 else fpN q, ?_, ?_, ?_⟩
    · intro q hq
      rcases hlive q hq with rfl | ⟨e, hq⟩
      · simp only [if_true]; exact ⟨hnd'.1, fun b hb => List.mem_append_left _ hb⟩
      · simp only [if_neg e]; exact ⟨(c1 q hq).1, fun b hb => List.mem_append_right _ ((c1 q hq).2 b hb)⟩
    · intro q q' b hq hq' hne hb hb'
      rcases hlive q hq with e | ⟨e, k1⟩ <;> rcases hlive q' hq' with e' | ⟨e', k2⟩
      · exact hne (e.trans e'.symm)
      · simp only [if_pos e] at hb
        simp only [if_neg e'] at hb'
        exact hnd'.2.2 b hb b ((c1 q' k2).2 b hb') rfl
      · simp only [if_pos e'] at hb'
        simp only [if_neg e] at hb
        exact hnd'.2.2 b hb' b ((c1 q k1).2 b hb) rfl
      · simp only [if_neg e] at hb
        simp only [if_neg e'] at hb'
        exact c2 q q' b k1 k2 hne hb hb'
    · intro O' B pl hO hfr hpl
      have hpN : pl N = some p := hpl N p (Nat.le_refl _) (by omega) (by simp)
      obtain ⟨d1, d2⟩ := c3 O' B pl hO (fun b hb hno => hfr b (List.mem_append_right _ hb) fun q hq => by
        rcases hlive q hq with rfl | ⟨e, hq⟩
        · simp only [if_true]; exact fun hb1 => hnd'.2.2 b hb1 b hb rfl
        · simp only [if_neg e]; exact hno q hq) (fun q p' h3 h4 h5 => hpl q p' (by omega) h4 (by show (if q = N then some p else plN q) = some p'; rw [if_neg (by omega)]; exact h5))
      refine ⟨fun q blk hq => ?_, ?_⟩
      · by_cases e : q = N
        · subst e
          simp only [mkH_cons, if_true] at hq ⊢
          injection hq with hq
          subst hq
          exact hroot O' B pl hO hpN
        · simp only [mkH_cons, if_neg e] at hq ⊢
          exact d1 q blk hq
      · simpa using (hhdr O' B pl hpN).cons d2
  | @cl N v vs vs' H n' t ih =>
    intro O B0 us fr hv hnd
    obtain ⟨u, us', f1, f2, rfl, rfl, h1, h2⟩ := hv.uncons
    have hnd' := List.nodup_append.1 hnd
    obtain ⟨hle, hk, plN, fpN, c1, c2, c3⟩ := ih h2 hnd'.2.1
    refine ⟨hle, hk, plN, fpN, fun q hq => ⟨(c1 q hq).1, fun b hb => List.mem_append_right _ ((c1 q hq).2 b hb)⟩, c2, fun O' B pl hO hfr hpl => ?_⟩
    obtain ⟨d1, d2⟩ := c3 O' B pl hO (fun b hb hno => hfr b (List.mem_append_right _ hb) hno) hpl
    refine ⟨d1, ?_⟩
    have hv1 := map_vals (fh := nilF) (fq := nilF) (oh := noF) (oq := noF) (pl0 := noPl) (O' := O') (B' := B) nilF_one nilF_one (fun _ _ _ _ h => h.elim) (fun _ _ _ _ h => h.elim) hO h1 (.inr rfl) (fun b hb => hfr b (List.mem_append_left _ hb) fun q hq hb' => hnd'.2.2 b hb b ((c1 q hq).2 b hb') rfl)
    have hv2 := hv1.shift (w' := w) (O' := O') (B' := B) (fun _ _ _ => rfl) (Nat.le_refl _) (fun _ _ h => h) pl (fun _ _ h => by cases h)
    have hv3 : Vals w O' B pl [clC v] [u] [] := by simpa [mapAs, clC] using hv2
    simpa using hv3.cons d2
  | @agg N cs cs' vs vs' H1 H2 m n' hA t ihA ih =>
    intro O B0 us fr hv hnd
    obtain ⟨u, us', f1, f2, rfl, rfl, h1, h2⟩ := hv.uncons
    have hnd' := List.nodup_append.1 hnd
    obtain ⟨us1, rfl, h1, hone⟩ := inv_agg h1
    obtain ⟨hleA, hkA, plA, fpA, a1, a2, a3⟩ := ihA h1 hnd'.1
    obtain ⟨hle, hk, plN, fpN, c1, c2, c3⟩ := ih h2 hnd'.2.1
    have hlive : ∀ q, (mkH (H1 ++ H2) q).isSome = true → ((mkH H1 q).isSome = true ∧ q < m) ∨ ((mkH H1 q).isSome = false ∧ (mkH H2 q).isSome = true ∧ ¬ q < m) := by
      intro q hq
      rw [mkH_append] at hq
      cases hm : mkH H1 q with
      | some b => exact .inl ⟨rfl, (hkA q (by rw [hm]; rfl)).2⟩
      | none => rw [hm] at hq; exact .inr ⟨rfl, hq, by have := (hk q hq).1; omega⟩
    have hl1 : ∀ q, (mkH H1 q).isSome = true → (mkH (H1 ++ H2) q).isSome = true := by
      intro q hq
      rw [mkH_append]
      cases hm : mkH H1 q with
      | some b => rfl
      | none => rw [hm] at hq; cases hq
    have hl2 : ∀ q, (mkH H2 q).isSome = true → (mkH (H1 ++ H2) q).isSome = true := by
      intro q hq
      rw [mkH_append]
      cases hm : mkH H1 q with
      | some b => rfl
      | none => exact hq
    refine ⟨by omega, ?_, fun q => if q < m then plA q else plN q, fun q => if q < m then fpA q else fpN q, ?_, ?_, ?_⟩
    · intro q hq
      rcases hlive q hq with ⟨h, _⟩ | ⟨_, h, _⟩
      · have := hkA q h; exact ⟨this.1, by omega⟩
      · have := hk q h; exact ⟨by omega, this.2⟩
    · intro q hq
      rcases hlive q hq with ⟨h, e⟩ | ⟨_, h, e⟩
      · simp only [if_pos e]; exact ⟨(a1 q h).1, fun b hb => List.mem_append_left _ ((a1 q h).2 b hb)⟩
      · simp only [if_neg e]; exact ⟨(c1 q h).1, fun b hb => List.mem_append_right _ ((c1 q h).2 b hb)⟩
    · intro q q' b hq hq' hne hb hb'
      rcases hlive q hq with ⟨h, e⟩ | ⟨_, h, e⟩ <;> rcases hlive q' hq' with ⟨h', e'⟩ | ⟨_, h', e'⟩
      · simp only [if_pos e] at hb; simp only [if_pos e'] at hb'
        exact a2 q q' b h h' hne hb hb'
      · simp only [if_pos e] at hb; simp only [if_neg e'] at hb'
        exact hnd'.2.2 b ((a1 q h).2 b hb) b ((c1 q' h').2 b hb') rfl
      · simp only [if_neg e] at hb; simp only [if_pos e'] at hb'
        exact hnd'.2.2 b ((a1 q' h').2 b hb') b ((c1 q h).2 b hb) rfl
      · simp only [if_neg e] at hb; simp only [if_neg e'] at hb'
        exact c2 q q' b h h' hne hb hb'
    · intro O' B pl hO hfr hpl
      obtain ⟨e1, e2⟩ := a3 O' B pl hO (fun b hb hno => hfr b (List.mem_append_left _ hb) fun q hq => by
        rcases hlive q hq with ⟨h, e⟩ | ⟨_, h, e⟩
        · simp only [if_pos e]; exact hno q h
        · simp only [if_neg e]; exact fun hb' => hnd'.2.2 b hb b ((c1 q h).2 b hb') rfl) (fun q p h3 h4 h5 => hpl q p h3 (by omega) (by show (if q < m then plA q else plN q) = some p; rw [if_pos h4]; exact h5))
      obtain ⟨d1, d2⟩ := c3 O' B pl hO (fun b hb hno => hfr b (List.mem_append_right _ hb) fun q hq => by
        rcases hlive q hq with ⟨h, e⟩ | ⟨_, h, e⟩
        · simp only [if_pos e]; exact fun hb' => hnd'.2.2 b ((a1 q h).2 b hb') b hb rfl
        · simp only [if_neg e]; exact hno q h) (fun q p h3 h4 h5 => hpl q p (by omega) h4 (by show (if q < m then plA q else plN q) = some p; rw [if_neg (by omega)]; exact h5))
      refine ⟨fun q blk hq => ?_, ?_⟩
      · rcases hlive q (by rw [hq]; rfl) with ⟨h, e⟩ | ⟨h0, h, e⟩
        · simp only [if_pos e]
          refine e1 q blk ?_
          rw [mkH_append] at hq
          cases hm : mkH H1 q with
          | some b => rw [hm] at hq; exact hq
          | none => rw [hm] at h; cases h
        · simp only [if_neg e]
          refine d1 q blk ?_
          rw [mkH_append] at hq
          cases hm : mkH H1 q with
          | some b => rw [hm] at h0; cases h0
          | none => rw [hm] at hq; exact hq
      · have := Vals.agg (hA.ones hone) e2 d2
        simpa using this
  | @tup N cs cs' vs vs' H1 H2 m n' hA t ihA ih =>
    intro O B0 us fr hv hnd
    obtain ⟨u, us', f1, f2, rfl, rfl, h1, h2⟩ := hv.uncons
    have hnd' := List.nodup_append.1 hnd
    obtain ⟨us1, rfl, h3⟩ := inv_tup h1
    obtain ⟨hleA, hkA, plA, fpA, a1, a2, a3⟩ := ihA h3 hnd'.1
    obtain ⟨hle, hk, plN, fpN, c1, c2, c3⟩ := ih h2 hnd'.2.1
    have hlive : ∀ q, (mkH (H1 ++ H2) q).isSome = true → ((mkH H1 q).isSome = true ∧ q < m) ∨ ((mkH H1 q).isSome = false ∧ (mkH H2 q).isSome = true ∧ ¬ q < m) := by
      intro q hq
      rw [mkH_append] at hq
      cases hm : mkH H1 q with
      | some b => exact .inl ⟨rfl, (hkA q (by rw [hm]; rfl)).2⟩
      | none => rw [hm] at hq; exact .inr ⟨rfl, hq, by have := (hk q hq).1; omega⟩
    refine ⟨by omega, ?_, fun q => if q < m then plA q else plN q, fun q => if q < m then fpA q else fpN q, ?_, ?_, ?_⟩
    · intro q hq
      rcases hlive q hq with ⟨h, _⟩ | ⟨_, h, _⟩
      · have := hkA q h; exact ⟨this.1, by omega⟩
      · have := hk q h; exact ⟨by omega, this.2⟩
    · intro q hq
      rcases hlive q hq with ⟨h, e⟩ | ⟨_, h, e⟩
      · simp only [if_pos e]; exact ⟨(a1 q h).1, fun b hb => List.mem_append_left _ ((a1 q h).2 b hb)⟩
      · simp only [if_neg e]; exact ⟨(c1 q h).1, fun b hb => List.mem_append_right _ ((c1 q h).2 b hb)⟩
    · intro q q' b hq hq' hne hb hb'
      rcases hlive q hq with ⟨h, e⟩ | ⟨_, h, e⟩ <;> rcases hlive q' hq' with ⟨h', e'⟩ | ⟨_, h', e'⟩
      · simp only [if_pos e] at hb; simp only [if_pos e'] at hb'
        exact a2 q q' b h h' hne hb hb'
      · simp only [if_pos e] at hb; simp only [if_neg e'] at hb'
        exact hnd'.2.2 b ((a1 q h).2 b hb) b ((c1 q' h').2 b hb') rfl
      · simp only [if_neg e] at hb; simp only [if_pos e'] at hb'
        exact hnd'.2.2 b ((a1 q' h').2 b hb') b ((c1 q h).2 b hb) rfl
      · simp only [if_neg e] at hb; simp only [if_neg e'] at hb'
        exact c2 q q' b h h' hne hb hb'
    · intro O' B pl hO hfr hpl
      obtain ⟨e1, e2⟩ := a3 O' B pl hO (fun b hb hno => hfr b (List.mem_append_left _ hb) fun q hq => by
        rcases hlive q hq with ⟨h, e⟩ | ⟨_, h, e⟩
        · simp only [if_pos e]; exact hno q h
        · simp only [if_neg e]; exact fun hb' => hnd'.2.2 b hb b ((c1 q h).2 b hb') rfl) (fun q p h3 h4 h5 => hpl q p h3 (by omega) (by show (if q < m then plA q else plN q) = some p; rw [if_pos h4]; exact h5))
      obtain ⟨d1, d2⟩ := c3 O' B pl hO (fun b hb hno => hfr b (List.mem_append_right _ hb) fun q hq => by
        rcases hlive q hq with ⟨h, e⟩ | ⟨_, h, e⟩
        · simp only [if_pos e]; exact fun hb' => hnd'.2.2 b ((a1 q h).2 b hb') b hb rfl
        · simp only [if_neg e]; exact hno q h) (fun q p h3 h4 h5 => hpl q p (by omega) h4 (by show (if q < m then plA q else plN q) = some p; rw [if_neg (by omega)]; exact h5))
      refine ⟨fun q blk hq => ?_, ?_⟩
      · rcases hlive q (by rw [hq]; rfl) with ⟨h, e⟩ | ⟨h0, h, e⟩
        · simp only [if_pos e]
          refine e1 q blk ?_
          rw [mkH_append] at hq
          cases hm : mkH H1 q with
          | some b => rw [hm] at hq; exact hq
          | none => rw [hm] at h; cases h
        · simp only [if_neg e]
          refine d1 q blk ?_
          rw [mkH_append] at hq
          cases hm : mkH H1 q with
          | some b => rw [hm] at h0; cases h0
          | none => rw [hm] at hq; exact hq
      · have := Vals.tup e2 d2
        simpa using this
end

/-- A contract of values, as one of roots: the roots handed over are read alone, and come back. -/
theorem bcall_of {P : Program} {f : Nat} {H0 : List (Nat × Blk)} {N : Nat} {args args' : List AV} {r v : AV} {H1 : List (Nat × Blk)} {n' : Nat} (hA : ACall P f args' (· = r)) (had : Ad N [r] [v] H1 n')
    (hargs : args.map (fzA (mkH H0)) = args') (hm : okAs noF noF args ∨ (okAs (okB (mkH H0)) (okQ (mkH H0)) args ∧ sc r = true)) :
    BCall P f H0 N args (fun H1' n'' v' => H1' = H1 ++ H0 ∧ n'' = n' ∧ v' = v) := by
  subst hargs
  refine ⟨hA.1, fun E a pl fp us hP hnb hpl hR hv => ?_⟩
  have hXlt : ∀ b, Own E (mkS [] H0 N) fp b → b < E.w0.heap.size := fun b hb => own_lt hR hb
  have key : ∀ (w' : World) (u : Value) (fr : List Nat), Vals w' (fun b => Own E (mkS [] H0 N) fp b ∨ b ∈ fr) 0 noPl [r] [u] fr → fr.Nodup → (∀ b ∈ fr, E.w0.heap.size ≤ b ∧ b < w'.heap.size) → Keeps (fun _ => False) E.w0 w' →
      Ends E H0 N (fun H1' n'' v' => H1' = H1 ++ H0 ∧ n'' = n' ∧ v' = v) (.returned u) w' := by
    intro w' u fr hvr hnd hnew hkeep
    have hB := below_of_keeps hkeep
    obtain ⟨hle, hk, plN, fpN, c1, c2, c3⟩ := ad_sound had hvr hnd
    let fq : Nat → List Nat := fun q => if (mkH H1 q).isSome then fpN q else fp q
    let pq : Pls := fun q => if N ≤ q then (if q < n' then plN q else none) else pl q
    have hlt0 : ∀ q, (mkH H0 q).isSome = true → q < N := by
      intro q hq
      have := hR.used q hq
      simpa [mkS] using this
    have hlive : ∀ q, (mkH (H1 ++ H0) q).isSome = true → ((mkH H1 q).isSome = true ∧ fq q = fpN q ∧ mkH (H1 ++ H0) q = mkH H1 q) ∨ ((mkH H1 q).isSome = false ∧ (mkH H0 q).isSome = true ∧ fq q = fp q ∧ mkH (H1 ++ H0) q = mkH H0 q) := by
      intro q hq
      have e : mkH (H1 ++ H0) q = match mkH H1 q with | some b => some b | none => mkH H0 q := mkH_append H1 H0 q
      cases hm : mkH H1 q with
      | some b => rw [hm] at e; exact .inl ⟨rfl, by simp only [fq, hm]; rfl, e⟩
      | none => rw [hm] at e; rw [e] at hq; exact .inr ⟨rfl, hq, by simp only [fq, hm]; rfl, e⟩
    have hO : ∀ b, Own E (mkS [] (H1 ++ H0) n') fq b → Own E (mkS [] H0 N) fp b ∨ ∃ q, (mkH H1 q).isSome = true ∧ b ∈ fpN q := by
      rintro b (hx | ⟨q, hq, hb⟩)
      · exact .inl (.inl hx)
      · rcases hlive q hq with ⟨h1, h2, _⟩ | ⟨_, h1, h2, _⟩
        · rw [h2] at hb; exact .inr ⟨q, h1, hb⟩
        · rw [h2] at hb; exact .inl (.inr ⟨q, h1, hb⟩)
    have hO1 : ∀ b, b < w'.heap.size → ¬ (Own E (mkS [] H0 N) fp b ∨ b ∈ fr) → ¬ Own E (mkS [] (H1 ++ H0) n') fq b := by
      intro b _ hn ho
      rcases hO b ho with h | ⟨q, h1, h2⟩
      · exact hn (.inl h)
      · exact hn (.inr ((c1 q h1).2 b h2))
    have hO2 : ∀ b ∈ fr, (∀ q, (mkH H1 q).isSome = true → b ∉ fpN q) → ¬ Own E (mkS [] (H1 ++ H0) n') fq b := by
      intro b hb hn ho
      rcases hO b ho with h | ⟨q, h1, h2⟩
      · have := hXlt b h; have := (hnew b hb).1; omega
      · exact hn q h1 h2
    have hO3 : ∀ b, b < E.w0.heap.size → ¬ Own E (mkS [] H0 N) fp b → ¬ Own E (mkS [] (H1 ++ H0) n') fq b := by
      intro b hb hn ho
      rcases hO b ho with h | ⟨q, h1, h2⟩
      · exact hn h
      · have := (hnew b ((c1 q h1).2 b h2)).1; omega
    have hpold : ∀ q p, pl q = some p → pq q = some p := by
      intro q p hq
      have : ¬ N ≤ q := fun hN => by
        have := hR.unused q (by simp [mkS]; omega)
        rw [hq] at this; cases this
      simp only [pq, if_neg this]; exact hq
    obtain ⟨d1, d2⟩ := c3 (Own E (mkS [] (H1 ++ H0) n') fq) E.w0.heap.size pq hO1 hO2 (fun q p h1 h2 h3 => by simp only [pq, if_pos h1, if_pos h2]; exact h3)
    refine ⟨H1 ++ H0, n', v, a, pq, fq, ⟨rfl, rfl, rfl⟩, hle, ?_, ?_, d2⟩
    · intro q hq
      rcases hlive q hq with ⟨h1, _⟩ | ⟨_, h1, _⟩
      · exact .inr (hk q h1).1
      · exact .inl h1
    · exact
        { size := hR.size, defers := hR.defers
          plx := fun q hq => by
            have : ¬ N ≤ q := by have := hR.usnb q hq; simp [mkS] at this; omega
            simp only [pq, if_neg this]; exact hR.plx q hq
          unused := fun q hq => by
            have hq' : ¬ q < n' := by simpa [mkS] using hq
            simp only [pq, if_pos (show N ≤ q by omega), if_neg hq']
          used := fun q hq => by
            rcases hlive q hq with ⟨h1, _⟩ | ⟨_, h1, _⟩
            · have := (hk q h1).2; simpa [mkS] using this
            · have := hlt0 q h1; simp [mkS]; omega
          usnb := fun q hq => by have := hR.usnb q hq; simp [mkS] at this ⊢; omega
          roots := fun q blk hq => by
            have hq' : mkH (H1 ++ H0) q = some blk := hq
            rcases hlive q (by rw [hq']; rfl) with ⟨h1, h2, h3⟩ | ⟨_, h1, h2, h3⟩
            · rw [h2]; exact d1 q blk (h3 ▸ hq')
            · rw [h2]
              refine (hR.roots q blk (by show mkH H0 q = some blk; rw [← h3]; exact hq')).to ?_ hB.size hO3 hpold
              exact fun b _ hl => hB.block b hl
          nodup := fun q hq => by
            rcases hlive q hq with ⟨h1, h2, _⟩ | ⟨_, h1, h2, _⟩
            · rw [h2]; exact (c1 q h1).1
            · rw [h2]; exact hR.nodup q h1
          own := fun q hq b hb => by
            rcases hlive q hq with ⟨h1, h2, _⟩ | ⟨_, h1, h2, _⟩
            · rw [h2] at hb
              have := hnew b ((c1 q h1).2 b hb)
              exact ⟨this.2, .inl this.1, fun hx => by have := hR.xold b hx; omega⟩
            · rw [h2] at hb
              have := hR.own q h1 b hb
              exact ⟨Nat.lt_of_lt_of_le this.1 hB.size, this.2⟩
          disj := fun q q' b hq hq' hne hb hb' => by
            rcases hlive q hq with ⟨h1, h2, _⟩ | ⟨_, h1, h2, _⟩ <;> rcases hlive q' hq' with ⟨h1', h2', _⟩ | ⟨_, h1', h2', _⟩ <;> rw [h2] at hb <;> rw [h2'] at hb'
            · exact c2 q q' b h1 h1' hne hb hb'
            · have := (hnew b ((c1 q h1).2 b hb)).1; have := (hR.own q' h1' b hb').1; omega
            · have := (hnew b ((c1 q' h1').2 b hb')).1; have := (hR.own q h1 b hb).1; omega
            · exact hR.disj q q' b h1 h1' hne hb hb'
          xold := hR.xold, gold := hR.gold
          tmps := fun d hd => absurd rfl hd
          keeps := hR.keeps.trans hB }
  have fin : ∀ (X : Nat → Prop), (X = Own E (mkS [] H0 N) fp ∨ sc r = true) → ∀ e w', Back E.w0 X (· = r) e w' → Ends E H0 N (fun H1' n'' v' => H1' = H1 ++ H0 ∧ n'' = n' ∧ v' = v) e w' := by
    intro X hX e w' he
    cases e with
    | panicked c => exact he.elim
    | outgrown => exact he.elim
    | returned u =>
      obtain ⟨r', fr, rfl, h2, h3, h4, h5⟩ := he
      refine key w' u fr ?_ h3 h4 h5
      rcases hX with rfl | hX
      · exact h2
      · exact sc_shift h2 (by simp [scs, hX]) _
  rcases hm with hok | ⟨hok, hsc⟩
  · exact Calls.mono (hA.2 E.w0 (Own E (mkS [] H0 N) fp) us hXlt (args_apart hR 0 hv hok)) (fin _ (.inl rfl))
  · exact Calls.mono (hA.2 E.w0 noO us (fun b hb => hb.elim) (args_frozen hR 0 hv hok)) (fin _ (.inr hsc))
end Go.Amb

set_option linter.unusedSimpArgs false
set_option linter.unusedVariables false
namespace Go.Amb
open Go
/-- A call of a method value that is handed roots. -/
theorem evLm {P : Program} {i : AI} {is : List AI} {t : List (Nat × AV)} {h : Nat → Option Blk} {n : Nat} {u : Nat → Bool} {K : St → Prop} {d : Nat} {f : Nat} {x : AOpr} {caps : List AV} {args : List AOpr} {vs : List AV} {H0 : List (Nat × Blk)} {N : Nat} {Q : List (Nat × Blk) → Nat → AV → Prop}
    (hop : i.op = .callv x args) (hg : i.g = none) (hd : i.dst = some d) (hx : St.val ⟨mkT t, h, n, u⟩ x = .mfn f caps) (hvs : caps ++ args.map (St.val ⟨mkT t, h, n, u⟩) = vs) (hA : BCall P f H0 N vs Q) (hox : St.ok ⟨mkT t, h, n, u⟩ x) (ho : ∀ x ∈ args, St.ok ⟨mkT t, h, n, u⟩ x) (hH : ∀ p ∈ H0, h p.1 = some p.2) (hN : ∀ r, u r = true → r < N)
    (hk : ∀ H1 n' r, Q H1 n' r → evIs P is ⟨mkT ((d, r) :: t), over H0 H1 h, n, fun q => u q || (decide (N ≤ q) && decide (q < n'))⟩ K) : evIs P (i :: is) ⟨mkT t, h, n, u⟩ K := by
  refine .inl ?_
  show ev1 P i _ _
  unfold ev1
  rw [hg]
  show evOp P i _ _
  unfold evOp
  rw [hop]
  subst hvs
  refine ⟨hox, ho, ?_⟩
  rw [hx]
  refine .inr ⟨H0, N, Q, hA, fun q b hq => hH _ (mkH_mem hq), hN, fun H1 n' r hq => ?_⟩
  rw [hd]
  exact hk H1 n' r hq
theorem wLm  {P : Program} {i : AI} {is : List AI} {t : List (Nat × AV)} {h : Nat → Option Blk} {n : Nat} {u : Nat → Bool} {K : St → Prop} {d : Nat} {f : Nat} {x : AOpr} {caps : List AV} {args : List AOpr} {vs : List AV} {H0 : List (Nat × Blk)} {N : Nat} {Q : List (Nat × Blk) → Nat → AV → Prop} (hk : ∀ H1 n' r, Q H1 n' r → evIs P is ⟨mkT ((d, r) :: t), over H0 H1 h, n, fun q => u q || (decide (N ≤ q) && decide (q < n'))⟩ K) (hop : i.op = .callv x args := by exact rfl) (hg : i.g = none := by exact rfl) (hd : i.dst = some d := by exact rfl) (hx : St.val ⟨mkT t, h, n, u⟩ x = .mfn f caps := by conv => lhs; (try simp [hF, mkS, litA, fillA, maxI])) (hvs : caps ++ args.map (St.val ⟨mkT t, h, n, u⟩) = vs := by conv => lhs; (try simp [hF, mkS, litA, fillA, maxI])) (hA : BCall P f H0 N vs Q) (hox : St.ok ⟨mkT t, h, n, u⟩ x := by simp [hF, mkS, litA, fillA, maxI] <;> fail) (ho : ∀ x ∈ args, St.ok ⟨mkT t, h, n, u⟩ x := by simp [hF, mkS, litA, fillA, maxI] <;> fail) (hH : ∀ p ∈ H0, h p.1 = some p.2 := by simp [hF, mkS, litA, fillA, maxI] <;> fail) (hN : ∀ r, u r = true → r < N := by intro q hq; first | (simp [hF, mkS, litA, fillA, maxI] at hq; done) | (simp [hF, mkS, litA, fillA, maxI] at hq; omega)) : evIs P (i :: is) ⟨mkT t, h, n, u⟩ K :=
  evLm (hop := hop) (hg := hg) (hd := hd) (hx := hx) (hvs := hvs) (hA := hA) (hox := hox) (ho := ho) (hH := hH) (hN := hN) (hk := hk)
section
variable {P : Program} {is : List AI} {ws : List (Nat × List Nat)} {i : Nat} {ii : AI} {s : Sch} {l : List Nat} {t : List (Nat × AV)} {h : Nat → Option Blk} {n : Nat} {u : Nat → Bool} {K : St → Prop} {d g : Nat} {b : Bool} {v : AV}
theorem evD2n (hi : is[i]? = some ii) (hg : ii.g = some (g, b)) (hl : wsOf ws i = l) (hq : ii.op.quiet = false) (hd : ii.dst = some d)
    (hc : gcond ⟨mkT t, h, n, u⟩ g b = false) (hk : gok ⟨mkT t, h, n, u⟩ g) (hr : evIs P [] ⟨mkT ((d, .grd false .undef) :: t), h, n, u⟩ (fun st' => rechecks is st' l ∧ evT P is ws s st' K)) : evT P is ws (.one i s) ⟨mkT t, h, n, u⟩ K := by
  subst hl
  simp only [evT, ev1t, hi]
  unfold ev1
  rw [hg]
  simp only [hq, Bool.false_eq_true, if_false, hd]
  exact ⟨hk, fun e => absurd (hc.symm.trans e) (by simp), fun _ => hr⟩
theorem evD1x (hi : is[i]? = some ii) (hg : ii.g = some (g, b)) (hl : wsOf ws i = l) (hq : ii.op.quiet = true) (hd : ii.dst = some d)
    (hc : gcond ⟨mkT t, h, n, u⟩ g b = false) (hk : gok ⟨mkT t, h, n, u⟩ g) (hv : vop ⟨mkT t, h, n, u⟩ ii.k ii.op = v) (hr : evIs P [] ⟨mkT ((d, .grd false v) :: t), h, n, u⟩ (fun st' => rechecks is st' l ∧ evT P is ws s st' K)) : evT P is ws (.take i s) ⟨mkT t, h, n, u⟩ K := by
  subst hl hv
  simp only [evT, ev1t, hi]
  rw [ev1_quiet hq]
  unfold ok1 val1
  rw [hg, hd]
  refine ⟨⟨hk, fun e => absurd (hc.symm.trans e) (by simp)⟩, ?_⟩
  simp only [hc]
  exact hr
theorem wE5 (h' : evIs P [] ⟨mkT ((d, .grd false .undef) :: t), h, n, u⟩ (fun st' => rechecks is st' l ∧ evT P is ws s st' K)) (hi : is[i]? = some ii := by exact rfl) (hg : ii.g = some (g, b) := by exact rfl) (hl : wsOf ws i = l := by exact rfl) (hq : ii.op.quiet = false := by exact rfl) (hd : ii.dst = some d := by exact rfl) (hc : gcond ⟨mkT t, h, n, u⟩ g b = false := by simp [hF, mkS, litA, fillA, maxI] <;> fail) (hk : gok ⟨mkT t, h, n, u⟩ g := by simp [hF, mkS, litA, fillA, maxI] <;> fail) : evT P is ws (.one i s) ⟨mkT t, h, n, u⟩ K :=
  evD2n hi hg hl hq hd hc hk h'
theorem wE6 (h' : evIs P [] ⟨mkT ((d, .grd false v) :: t), h, n, u⟩ (fun st' => rechecks is st' l ∧ evT P is ws s st' K)) (hi : is[i]? = some ii := by exact rfl) (hg : ii.g = some (g, b) := by exact rfl) (hl : wsOf ws i = l := by exact rfl) (hq : ii.op.quiet = true := by exact rfl) (hd : ii.dst = some d := by exact rfl) (hc : gcond ⟨mkT t, h, n, u⟩ g b = false := by simp [hF, mkS, litA, fillA, maxI] <;> fail) (hk : gok ⟨mkT t, h, n, u⟩ g := by simp [hF, mkS, litA, fillA, maxI] <;> fail) (hv : vop ⟨mkT t, h, n, u⟩ ii.k ii.op = v := by conv => lhs; (try simp [hF, mkS, litA, fillA, maxI])) : evT P is ws (.take i s) ⟨mkT t, h, n, u⟩ K :=
  evD1x hi hg hl hq hd hc hk hv h'
theorem wE7 (h' : evIs P [] ⟨mkT ((d, .grd false v) :: t), h, n, u⟩ (fun st' => rechecks is st' l ∧ evT P is ws s st' K)) (hi : is[i]? = some ii := by exact rfl) (hg : ii.g = some (g, b) := by exact rfl) (hl : wsOf ws i = l := by exact rfl) (hq : ii.op.quiet = true := by exact rfl) (hd : ii.dst = some d := by exact rfl) (hc : gcond ⟨mkT t, h, n, u⟩ g b = false := by simp [hF, mkS, litA, fillA, maxI] <;> fail) (hk : gok ⟨mkT t, h, n, u⟩ g := by simp [hF, mkS, litA, fillA, maxI] <;> fail) (hv : vop ⟨mkT t, h, n, u⟩ ii.k ii.op = v := by conv => lhs; (try simp [hF, mkS, litA, fillA, maxI])) : evT P is ws (.one i s) ⟨mkT t, h, n, u⟩ K :=
  evD1x (s := s) hi hg hl hq hd hc hk hv h'
end
end Go.Amb

namespace Go.Amb
open Go
theorem AW.cutE {P : Program} {n : Nat} {γ : Type} {x y : ACode} {st : St} {Q : AE → St → Prop} (S : γ → St) (I : γ → Prop) (h : AW P n x st (fun e s => e = .normal ∧ ∃ g, I g ∧ Fit s (S g))) (k : ∀ g, I g → AW P n y (S g) Q) : AW P n (.seq x y) st Q :=
  AW.seq (AW.mono h fun e s ⟨he, g, hg, hf⟩ => by subst he; exact AW.fit hf (k g hg))
theorem AW.endE {P : Program} {n : Nat} {γ : Type} {x : ACode} {st : St} {Q : AE → St → Prop} (S : γ → St) (I : γ → Prop) (h : AW P n x st (fun e s => e = .normal ∧ ∃ g, I g ∧ Fit s (S g))) (k : ∀ g, I g → Q .normal (S g)) : AW P n x st Q :=
  AW.out (AW.mono h fun e s ⟨he, g, hg, hf⟩ => by subst he; exact ⟨S g, hf, k g hg⟩)
theorem AW.cutX {P : Program} {n : Nat} {γ : Type} {x y : ACode} {st : St} {Q : AE → St → Prop} (S : γ → St) (I : γ → Prop) (h : AW P n x st (fun e s => (e = .normal ∧ ∃ g, I g ∧ Fit s (S g)) ∨ (e ≠ .normal ∧ Q e s))) (k : ∀ g, I g → AW P n y (S g) Q) : AW P n (.seq x y) st Q :=
  AW.seq (AW.mono h (by
    rintro e s (⟨rfl, g, hg, hf⟩ | ⟨he, hq⟩)
    · exact AW.fit hf (k g hg)
    · cases e
      · exact absurd rfl he
      · exact hq
      · exact hq))
theorem mkS_eq (t : List (Nat × AV)) (h : List (Nat × Blk)) (n : Nat) : mkS t h n = ⟨mkT t, mkH h, n, fun r => decide (r < n)⟩ := rfl
end Go.Amb
