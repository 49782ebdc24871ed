/- Chapter 40, a task is given out once: what the calls keep. -/
import Derived.Test.YtloccbmiojhabaaS4
import Derived.Test.YtloccbmiojhabaaS5
import Derived.Test.YtloccbmiojhabaaB2

set_option linter.unusedSimpArgs false
set_option linter.unusedVariables false
namespace Go.Proofs.Ytloccbmiojhabaa
open Go Go.Amb Go.IntWalk

def hh : ByteArray := ⟨#[104]⟩
structure MS where
  xs : List Item
  tok : Int
  now : Int
  toks : List Int
  untl : List Int
  own : List Int
def fits (x : Item) (u o : Int) : Prop := (x.holder = ⟨#[]⟩ ∧ x.token = 0 ∧ x.til = 0 ∧ u = 0 ∧ o = 0) ∨ (x.holder = hh ∧ 1 ≤ x.token ∧ x.token = o ∧ x.til = u ∧ 5 ≤ u)
structure Inv (m : MS) (k : Nat) : Prop where
  len : m.own.length = m.untl.length
  n : m.untl.length ≤ k
  nx : m.xs.length ≤ m.untl.length
  now0 : 0 ≤ m.now
  now1 : m.now ≤ 7 * k
  tok0 : 0 ≤ m.tok
  tok1 : m.tok ≤ k
  tl : m.toks.length ≤ k
  toks : ∀ t ∈ m.toks, 1 ≤ t ∧ t ≤ m.tok
  items : ∀ (j : Nat) x, m.xs[j]? = some x → ∃ (i : Nat) (u o : Int), m.untl[i]? = some u ∧ m.own[i]? = some o ∧ x.task = wt (i + 1) ∧ fits x u o
  there : ∀ (i : Nat) (u : Int), m.untl[i]? = some u → 0 ≤ u → ∃ (j : Nat) (x : Item), m.xs[j]? = some x ∧ x.task = wt (i + 1)
  alone : ∀ (j j' : Nat) x x', m.xs[j]? = some x → m.xs[j']? = some x' → x.task = x'.task → j = j'
  ots : ∀ (i : Nat) (o : Int), m.own[i]? = some o → 0 ≤ o ∧ o ≤ m.tok
  owners : ∀ (i j : Nat) (o : Int), m.own[i]? = some o → m.own[j]? = some o → 0 < o → i = j
  ubound : ∀ (i : Nat) (u : Int), m.untl[i]? = some u → -1 ≤ u ∧ u ≤ 7 * k + 5
theorem wt_inj {a b : Int} (h : wt a = wt b) : a = b := by simpa [wt] using congrArg Task.id h
theorem fits_u {x : Item} {u o : Int} (h : fits x u o) : 0 ≤ u ∧ u = x.til ∧ o = x.token := by
  rcases h with ⟨_, a, b, c, d⟩ | ⟨_, _, a, b, c⟩ <;> exact ⟨by omega, by omega, by omega⟩

/-- One more step leaves room. -/
theorem Inv.more {m : MS} {k : Nat} (h : Inv m k) {d : Int} (hd0 : 0 ≤ d) (hd : d ≤ 7) : Inv { m with now := m.now + d } (k + 1) :=
  ⟨h.len, by have := h.n; show m.untl.length ≤ _; omega, h.nx, by have := h.now0; show 0 ≤ m.now + d; omega, by have := h.now1; show m.now + d ≤ _; push_cast; omega, h.tok0, by have := h.tok1; push_cast; omega, by have := h.tl; show m.toks.length ≤ _; omega, h.toks, h.items, h.there, h.alone, h.ots, h.owners,
    fun i u hu => by have := h.ubound i u hu; push_cast; omega⟩

-- a task is added
def MS.add (m : MS) : MS := { m with xs := m.xs ++ [newItem (wt (m.untl.length + 1))], untl := m.untl ++ [0], own := m.own ++ [0] }
theorem get_app {α : Type} {l : List α} {a b : α} {i : Nat} (h : (l ++ [a])[i]? = some b) : l[i]? = some b ∨ (i = l.length ∧ b = a) := by
  rw [List.getElem?_append] at h
  split at h
  · exact .inl h
  · rename_i hi
    cases hk : i - l.length with
    | zero => rw [hk] at h; simp at h; exact .inr ⟨by omega, h.symm⟩
    | succ q => rw [hk] at h; simp at h
theorem app_get {α : Type} {l : List α} {a b : α} {i : Nat} (h : l[i]? = some b) : (l ++ [a])[i]? = some b := by
  rw [List.getElem?_append_left (List.getElem?_eq_some_iff.1 h).1, h]
theorem app_last {α : Type} {l : List α} {a : α} : (l ++ [a])[l.length]? = some a := by simp
theorem get_lt {α : Type} {l : List α} {a : α} {i : Nat} (h : l[i]? = some a) : i < l.length := (List.getElem?_eq_some_iff.1 h).1
theorem get_of {α : Type} {l : List α} {i : Nat} (h : i < l.length) : ∃ a, l[i]? = some a := ⟨l[i], List.getElem?_eq_getElem h⟩

theorem Inv.new {m : MS} {k : Nat} (h : Inv m k) {j : Nat} {x : Item} (hx : m.xs[j]? = some x) : x.task.id ≤ m.untl.length := by
  obtain ⟨i, u, o, hu, -, ht, -⟩ := h.items j x hx
  have := get_lt hu
  rw [ht]
  simp only [wt]
  omega
theorem Inv.add {m : MS} {k : Nat} (h : Inv m k) (h' : Inv m (k + 1)) : Inv m.add (k + 1) where
  len := by simp [MS.add, h.len]
  n := by have := h.n; simp [MS.add]; omega
  nx := by have := h.nx; simp [MS.add]; omega
  now0 := h'.now0
  now1 := h'.now1
  tok0 := h'.tok0
  tok1 := h'.tok1
  tl := h'.tl
  toks := h'.toks
  items j x hx := by
    rcases get_app hx with hx | ⟨-, rfl⟩
    · obtain ⟨i, u, o, a, b, c, d⟩ := h.items j x hx
      exact ⟨i, u, o, app_get a, app_get b, c, d⟩
    · refine ⟨m.untl.length, 0, 0, app_last, ?_, rfl, .inl ⟨rfl, rfl, rfl, rfl, rfl⟩⟩
      simp only [MS.add]
      rw [← h.len]
      exact app_last
  there i u hu hp := by
    rcases get_app hu with hu | ⟨rfl, rfl⟩
    · obtain ⟨j, x, a, b⟩ := h.there i u hu hp
      exact ⟨j, x, app_get a, b⟩
    · exact ⟨_, _, app_last, rfl⟩
  alone j j' x x' hx hx' he := by
    rcases get_app hx with hx | ⟨rfl, rfl⟩ <;> rcases get_app hx' with hx' | ⟨rfl, rfl⟩
    · exact h.alone j j' x x' hx hx' he
    · have := h.new hx
      rw [he] at this
      simp only [newItem, wt] at this
      omega
    · have := h.new hx'
      rw [← he] at this
      simp only [newItem, wt] at this
      omega
    · rfl
  ots i o ho := by
    rcases get_app ho with ho | ⟨rfl, rfl⟩
    · exact h.ots i o ho
    · exact ⟨by omega, h.tok0⟩
  owners i j o ho ho' hp := by
    rcases get_app ho with ho | ⟨rfl, rfl⟩ <;> rcases get_app ho' with ho' | ⟨rfl, he⟩
    · exact h.owners i j o ho ho' hp
    · omega
    · omega
    · rfl
  ubound i u hu := by
    rcases get_app hu with hu | ⟨rfl, rfl⟩
    · exact h'.ubound i u hu
    · omega
theorem Inv.addR {m : MS} {k : Nat} (h : Inv m k) (hk : k ≤ 200) : addE m.xs (wt (m.untl.length + 1)) = 0 ∧ addB m.xs (wt (m.untl.length + 1)) = true ∧ addQ .fro m.xs m.tok (wt (m.untl.length + 1)) = qv (.own 13) m.add.xs m.tok := by
  have hb : (wt ((m.untl.length : Int) + 1)).bad = false := by
    have h1 : ((⟨#[119]⟩ : ByteArray) = ⟨#[]⟩) = False := eq_false (by decide)
    have h2 : ((⟨#[114, 49]⟩ : ByteArray) = ⟨#[]⟩) = False := eq_false (by decide)
    have h3 : ((m.untl.length : Int) + 1 < 1) = False := eq_false (by omega)
    simp only [Task.bad, wt, h1, h2, h3]
    rfl
  have ha : m.xs.any (sameKey (wt ((m.untl.length : Int) + 1))) = false := by
    rw [List.any_eq_false]
    intro x hx
    obtain ⟨j, hj, rfl⟩ := List.getElem_of_mem hx
    have := h.new (List.getElem?_eq_getElem hj)
    have h1 : ((m.xs[j]).task.id = (m.untl.length : Int) + 1) = False := eq_false (by omega)
    simp only [sameKey, wt, h1]
    simp
  have hl : ¬ 1000 ≤ m.xs.length := by have := h.nx; have := h.n; omega
  simp [addE, addB, addQ, hb, ha, hl, MS.add]

-- a task is given out
def MS.poll (m : MS) (k i : Nat) (x : Item) : MS := { m with xs := m.xs.set k (given x hh m.now 5 m.tok), tok := m.tok + 1, toks := m.toks ++ [m.tok + 1], untl := m.untl.set i (m.now + 5), own := m.own.set i (m.tok + 1) }
theorem get_set {α : Type} {l : List α} {i j : Nat} {a b : α} (h : (l.set i a)[j]? = some b) : (i = j ∧ j < l.length ∧ b = a) ∨ (i ≠ j ∧ l[j]? = some b) := by
  rw [List.getElem?_set] at h
  split at h
  · rename_i e
    split at h
    · exact .inl ⟨e, by omega, by simpa using h.symm⟩
    · cases h
  · rename_i e
    exact .inr ⟨e, h⟩
theorem set_get {α : Type} {l : List α} {i j : Nat} {a b : α} (h : i ≠ j) (hb : l[j]? = some b) : (l.set i a)[j]? = some b := by
  rw [List.getElem?_set_ne h, hb]
theorem set_at {α : Type} {l : List α} {i : Nat} {a : α} (h : i < l.length) : (l.set i a)[i]? = some a := by simp [h]
/-- An item, its place, its entries. -/
theorem Inv.at {m : MS} {k : Nat} (h : Inv m k) {j : Nat} {x : Item} (hx : m.xs[j]? = some x) : ∃ (i : Nat), x.task = wt (i + 1) ∧ i < m.untl.length ∧ m.untl[i]? = some x.til ∧ m.own[i]? = some x.token ∧ fits x x.til x.token := by
  obtain ⟨i, u, o, a, b, c, d⟩ := h.items j x hx
  obtain ⟨_, rfl, rfl⟩ := fits_u d
  exact ⟨i, c, get_lt a, a, b, d⟩
/-- What is changed at one item and at its entries, and keeps the rest. -/
theorem Inv.change {m : MS} {k j i : Nat} {x y : Item} (h : Inv m k) (hx : m.xs[j]? = some x) (ht : x.task = wt (i + 1)) (hy : y.task = x.task) {tok now : Int} {toks : List Int} (htok : m.tok ≤ tok) (htok1 : tok ≤ (k : Int) + 1) (hts : ∀ t ∈ toks, 1 ≤ t ∧ t ≤ tok) (htl : toks.length ≤ k + 1) (hnow : now = m.now)
    {u o : Int} (hf : fits y u o) (ho0 : 0 ≤ o) (ho : o ≤ tok) (hno : ∀ q, m.own[q]? = some o → 0 < o → q = i) (hu : u ≤ 7 * (k : Int) + 12) :
    Inv ⟨m.xs.set j y, tok, now, toks, m.untl.set i u, m.own.set i o⟩ (k + 1) := by
  subst hnow
  obtain ⟨i', hi', hil, hiu, hio, -⟩ := h.at hx
  have hii : i = i' := by have := wt_inj (ht.symm.trans hi'); omega
  subst hii
  have hiol : i < m.own.length := get_lt hio
  have hjl : j < m.xs.length := get_lt hx
  refine ⟨by simp [h.len], by have := h.n; simp; omega, by have := h.nx; simpa using this, h.now0, by have := h.now1; show m.now ≤ _; push_cast; omega, by have := h.tok0; show 0 ≤ tok; omega, by show tok ≤ _; push_cast; omega, htl, hts, ?_, ?_, ?_, ?_, ?_, ?_⟩
  · intro q z hz
    rcases get_set hz with ⟨rfl, hl, rfl⟩ | ⟨hne, hz⟩
    · exact ⟨i, u, o, set_at hil, set_at hiol, hy.trans ht, hf⟩
    · obtain ⟨p, a, b, c, d, e⟩ := h.at hz
      have hpi : i ≠ p := fun e => hne (h.alone j q x z hx hz (by rw [ht, a, e]))
      exact ⟨p, _, _, set_get hpi c, set_get hpi d, a, e⟩
  · intro p w hw hw0
    rcases get_set hw with ⟨rfl, hl, rfl⟩ | ⟨hne, hw⟩
    · exact ⟨j, y, set_at hjl, hy.trans ht⟩
    · obtain ⟨q, z, a, b⟩ := h.there p w hw hw0
      have hqj : j ≠ q := fun e => by
        subst e
        rw [hx] at a
        injection a with a
        subst a
        have := wt_inj (ht.symm.trans b)
        omega
      exact ⟨q, z, set_get hqj a, b⟩
  · intro q q' z z' hz hz' he
    rcases get_set hz with ⟨e1, hl, e2⟩ | ⟨hne, hz1⟩
    · rcases get_set hz' with ⟨e3, hl', e4⟩ | ⟨hne', hz1'⟩
      · omega
      · exact absurd (h.alone _ _ x z' hx hz1' (by rw [← hy, ← e2, he])) hne'
    · rcases get_set hz' with ⟨e3, hl', e4⟩ | ⟨hne', hz1'⟩
      · exact absurd (h.alone _ _ x z hx hz1 (by rw [← hy, ← e4, he])) hne
      · exact h.alone _ _ _ _ hz1 hz1' he
  · intro p w hw
    rcases get_set hw with ⟨rfl, hl, rfl⟩ | ⟨hne, hw⟩
    · exact ⟨ho0, ho⟩
    · have := h.ots p w hw
      exact ⟨this.1, by show w ≤ tok; omega⟩
  · intro p q w hp hq hw
    rcases get_set hp with ⟨e1, hl, e2⟩ | ⟨hne, hp1⟩
    · rcases get_set hq with ⟨e3, hl', e4⟩ | ⟨hne', hq1⟩
      · omega
      · rw [e2] at hq1 hw
        have := hno q hq1 hw
        omega
    · rcases get_set hq with ⟨e3, hl', e4⟩ | ⟨hne', hq1⟩
      · rw [e4] at hp1 hw
        have := hno p hp1 hw
        omega
      · exact h.owners p q w hp1 hq1 hw
  · intro p w hw
    rcases get_set hw with ⟨rfl, hl, rfl⟩ | ⟨hne, hw⟩
    · have := (fits_u hf).1
      push_cast; omega
    · have := h.ubound p w hw
      push_cast; omega
theorem i64w {a : Int} (h0 : 0 ≤ a) (h : a ≤ 9223372036854775807) : IntKind.i64.wrap a = a := i64_in _ ⟨by omega, by omega⟩
theorem tries_any (x : Item) (h : ByteArray) (a b c : Int) : (given x h a b c).task = x.task := rfl
theorem Inv.poll {m : MS} {k j i : Nat} {x : Item} (h : Inv m k) (hk : k ≤ 200) (hx : m.xs[j]? = some x) (ht : x.task = wt (i + 1)) : Inv (m.poll j i x) (k + 1) := by
  have := h.tok0
  have := h.tok1
  have := h.now0
  have := h.now1
  refine h.change (y := given x hh m.now 5 m.tok) (u := m.now + 5) (o := m.tok + 1) (tok := m.tok + 1) (now := m.now) (toks := m.toks ++ [m.tok + 1]) hx ht rfl (by omega) (by omega) ?_ (by have := h.tl; simp; omega) rfl ?_ (by omega) (by omega) ?_ (by omega)
  · intro t ht
    rcases List.mem_append.1 ht with ht | ht
    · have := h.toks t ht; omega
    · simp at ht; omega
  · refine .inr ⟨rfl, ?_, ?_, ?_, by omega⟩ <;> simp only [given]
    · rw [i64w (by omega) (by omega)]; omega
    · rw [i64w (by omega) (by omega)]
    · rw [i64w (by omega) (by omega)]
  · intro q hq _
    have := h.ots q _ hq
    omega

-- a token is reported
def MS.cond (m : MS) (t : Int) (i : Nat) : Prop := m.own[i]? = some t ∧ 0 < t ∧ ∃ u, m.untl[i]? = some u ∧ 0 ≤ u
theorem Inv.held {m : MS} {k : Nat} (h : Inv m k) (t : Int) :
    (heldK m.xs t = none ∧ ∀ i, ¬ m.cond t i) ∨ ∃ (j i : Nat) (x : Item), heldK m.xs t = some j ∧ m.xs[j]? = some x ∧ x.task = wt (i + 1) ∧ m.cond t i ∧ (∀ q, m.cond t q → q = i) ∧ (∀ q, m.own[q]? = some t → q = i) ∧
      m.untl[i]? = some x.til ∧ x.token = t ∧ 1 ≤ t ∧ t ≤ m.tok ∧ x.holder = hh ∧ 5 ≤ x.til := by
  unfold heldK
  by_cases ht : t < 1
  · exact .inl ⟨by simp [ht], fun i hc => by have := hc.2.1; omega⟩
  rw [if_neg ht]
  cases hf : m.xs.findIdx? (tokIs t) with
  | none =>
    refine .inl ⟨rfl, fun i hc => ?_⟩
    obtain ⟨ho, h0, u, hu, hu0⟩ := hc
    obtain ⟨j, x, hx, hxt⟩ := h.there i u hu hu0
    obtain ⟨i', a, -, -, c, -⟩ := h.at hx
    have : i = i' := by have := wt_inj (hxt.symm.trans a); omega
    subst this
    rw [ho] at c
    injection c with c
    have := List.findIdx?_eq_none_iff.1 hf x (List.mem_of_getElem? hx)
    simp [tokIs, c] at this
  | some j =>
    obtain ⟨hj, hp, -⟩ := List.findIdx?_eq_some_iff_getElem.1 hf
    have hx := List.getElem?_eq_getElem hj
    generalize m.xs[j] = x at hx hp
    have hp : x.token = t := by simpa [tokIs] using hp
    obtain ⟨i, a, b, c, d, e⟩ := h.at hx
    rcases e with ⟨_, e, _⟩ | ⟨e1, e2, _, _, e5⟩
    · omega
    · rw [hp] at d
      have hu : ∀ q, m.own[q]? = some t → q = i := fun q hq => h.owners q i t hq d (by omega)
      exact .inr ⟨j, i, x, rfl, hx, a, ⟨d, by omega, x.til, c, by omega⟩, fun q hq => hu q hq.1, hu, c, hp, by omega, (h.ots i t d).2, e1, e5⟩
def MS.ack (m : MS) (j i : Nat) : MS := { m with xs := m.xs.take j ++ m.xs.drop (j + 1), untl := m.untl.set i (-1) }
theorem cut_get {α : Type} {l : List α} {j q : Nat} {a : α} (h : (l.take j ++ l.drop (j + 1))[q]? = some a) (hj : j < l.length) : ∃ p, p ≠ j ∧ l[p]? = some a ∧ p = if q < j then q else q + 1 := by
  rw [List.getElem?_append] at h
  simp only [List.length_take, List.getElem?_take, List.getElem?_drop] at h
  split at h
  · rename_i e
    rw [if_pos (by omega)] at h
    exact ⟨q, by omega, h, by rw [if_pos (by omega)]⟩
  · rename_i e
    refine ⟨q + 1, by omega, ?_, by rw [if_neg (by omega)]⟩
    rw [← h]
    congr 1
    omega
theorem get_cut {α : Type} {l : List α} {j p : Nat} {a : α} (h : l[p]? = some a) (hp : p ≠ j) (hj : j < l.length) : (l.take j ++ l.drop (j + 1))[if p < j then p else p - 1]? = some a := by
  rw [List.getElem?_append]
  simp only [List.length_take, List.getElem?_take, List.getElem?_drop]
  by_cases e : p < j
  · rw [if_pos e, if_pos (by omega), if_pos e, h]
  · rw [if_neg e, if_neg (by omega), ← h]
    congr 1
    omega
theorem Inv.ack {m : MS} {k j i : Nat} {x : Item} (h : Inv m k) (hx : m.xs[j]? = some x) (ht : x.task = wt (i + 1)) : Inv (m.ack j i) (k + 1) := by
  have hjl := get_lt hx
  refine ⟨by simp [MS.ack, h.len], by have := h.n; simp [MS.ack]; omega, by have := h.nx; simp [MS.ack]; omega, h.now0, by have := h.now1; show m.now ≤ _; push_cast; omega, h.tok0, by have := h.tok1; show m.tok ≤ _; push_cast; omega, by have := h.tl; show m.toks.length ≤ _; omega, h.toks, ?_, ?_, ?_, h.ots, h.owners, ?_⟩
  · intro q z hz
    obtain ⟨p, hp, hz, -⟩ := cut_get hz hjl
    obtain ⟨i', a, b, c, d, e⟩ := h.at hz
    have hii : i ≠ i' := fun e => hp (h.alone p j z x hz hx (by rw [ht, a, e]))
    exact ⟨i', _, _, set_get hii c, d, a, e⟩
  · intro p w hw hw0
    rcases get_set hw with ⟨rfl, hl, rfl⟩ | ⟨hne, hw⟩
    · omega
    · obtain ⟨q, z, a, b⟩ := h.there p w hw hw0
      have hqj : q ≠ j := fun e => by
        subst e
        rw [hx] at a
        injection a with a
        subst a
        have := wt_inj (ht.symm.trans b)
        omega
      exact ⟨_, z, get_cut a hqj hjl, b⟩
  · intro q q' z z' hz hz' he
    obtain ⟨p, hp, hz, hq⟩ := cut_get hz hjl
    obtain ⟨p', hp', hz', hq'⟩ := cut_get hz' hjl
    have := h.alone _ _ _ _ hz hz' he
    split at hq <;> split at hq' <;> omega
  · intro p w hw
    rcases get_set hw with ⟨rfl, hl, e⟩ | ⟨hne, hw⟩
    · subst e
      have : (0 : Int) ≤ ((k + 1 : Nat) : Int) := by omega
      exact ⟨by omega, by omega⟩
    · have := h.ubound p w hw
      push_cast; omega
def MS.ext (m : MS) (j i : Nat) (x : Item) : MS := { m with xs := m.xs.set j (longer x m.now 5), untl := m.untl.set i (m.now + 5) }
theorem set_same {α : Type} {l : List α} {i : Nat} {a : α} (h : l[i]? = some a) : l.set i a = l := by
  apply List.ext_getElem?
  intro j
  rw [List.getElem?_set]
  split
  · rename_i e
    subst e
    rw [if_pos (get_lt h), h]
  · rfl
theorem Inv.ext {m : MS} {k j i : Nat} {x : Item} (h : Inv m k) (hk : k ≤ 200) (hx : m.xs[j]? = some x) (ht : x.task = wt (i + 1)) (hh : x.holder = hh) (h1 : 1 ≤ x.token) : Inv (m.ext j i x) (k + 1) := by
  have := h.tok0
  have := h.tok1
  have := h.now0
  have := h.now1
  obtain ⟨i', hi', hil, hiu, hio, -⟩ := h.at hx
  have hii : i = i' := by have := wt_inj (ht.symm.trans hi'); omega
  subst hii
  have hot := h.ots i _ hio
  have hc := h.change (y := longer x m.now 5) (u := m.now + 5) (o := x.token) (tok := m.tok) (now := m.now) (toks := m.toks) hx ht rfl (by omega) (by omega) h.toks (by have := h.tl; omega) rfl
    (.inr ⟨hh, h1, rfl, by simp only [longer]; rw [i64w (by omega) (by omega)], by omega⟩) hot.1 hot.2 (fun q hq hp => h.owners q i _ hq hio hp) (by omega)
  rw [set_same hio] at hc
  exact hc
def MS.ret (m : MS) (j i : Nat) (x : Item) : MS := { m with xs := m.xs.set j (let_ x), untl := m.untl.set i 0, own := m.own.set i 0 }
theorem Inv.ret {m : MS} {k j i : Nat} {x : Item} (h : Inv m k) (hx : m.xs[j]? = some x) (ht : x.task = wt (i + 1)) : Inv (m.ret j i x) (k + 1) := by
  have := h.tok0
  have := h.tok1
  exact h.change (y := let_ x) (u := 0) (o := 0) (tok := m.tok) (now := m.now) (toks := m.toks) hx ht rfl (by omega) (by omega) h.toks (by have := h.tl; omega) rfl (.inl ⟨rfl, rfl, rfl, rfl, rfl⟩) (by omega) (by omega) (fun q _ hp => by omega) (by omega)

-- what is free at the end
theorem Inv.free {m : MS} {k : Nat} (h : Inv m k) {i : Nat} {u : Int} (hu : m.untl[i]? = some u) : (∃ x ∈ m.xs, avail x m.now = true ∧ x.task = wt (i + 1)) ↔ (0 ≤ u ∧ u ≤ m.now) := by
  have hn := h.now0
  constructor
  · rintro ⟨x, hx, ha, ht⟩
    obtain ⟨j, hj, rfl⟩ := List.getElem_of_mem hx
    obtain ⟨i', a, -, c, -, d⟩ := h.at (List.getElem?_eq_getElem hj)
    have hii : i = i' := by have := wt_inj (ht.symm.trans a); omega
    subst hii
    rw [hu] at c
    injection c with c
    simp [avail] at ha
    rcases d with ⟨d1, _, d3, _⟩ | ⟨d1, _, _, _, d5⟩
    · omega
    · rcases ha.1 with e | e
      · rw [d1] at e; exact absurd e (by decide)
      · omega
  · rintro ⟨h0, h1⟩
    obtain ⟨j, x, hx, ht⟩ := h.there i u hu h0
    obtain ⟨i', a, -, c, -, d⟩ := h.at hx
    have hii : i = i' := by have := wt_inj (ht.symm.trans a); omega
    subst hii
    rw [hu] at c
    injection c with c
    refine ⟨x, List.mem_of_getElem? hx, ?_, ht⟩
    simp only [avail, ht, wt]
    simp
    exact ⟨.inr (by omega), hn⟩
theorem Inv.mono {m : MS} {k : Nat} (h : Inv m k) : Inv m (k + 1) :=
  ⟨h.len, by have := h.n; omega, h.nx, h.now0, by have := h.now1; push_cast; omega, h.tok0, by have := h.tok1; push_cast; omega, by have := h.tl; omega, h.toks, h.items, h.there, h.alone, h.ots, h.owners,
    fun i u hu => by have := h.ubound i u hu; push_cast; omega⟩
/-- The last place of a delivery with this token, after i places. -/
def atI (m : MS) (t : Int) : Nat → Int
  | 0 => -1
  | i + 1 => if m.own.getD i 0 = t ∧ 0 < t ∧ 0 ≤ m.untl.getD i 0 then i else atI m t i
theorem getD_of {l : List Int} {i : Nat} {a : Int} (h : l[i]? = some a) : l.getD i 0 = a := by simp [h]
theorem cond_iff {m : MS} {k : Nat} (h : Inv m k) {t : Int} {i : Nat} (hi : i < m.untl.length) : m.cond t i ↔ (m.own.getD i 0 = t ∧ 0 < t ∧ 0 ≤ m.untl.getD i 0) := by
  obtain ⟨u, hu⟩ := get_of hi
  obtain ⟨o, ho⟩ := get_of (l := m.own) (i := i) (by rw [h.len]; exact hi)
  rw [getD_of hu, getD_of ho]
  unfold MS.cond
  rw [ho, hu]
  simp
theorem at_none {m : MS} {k : Nat} (h : Inv m k) {t : Int} (hn : ∀ i, ¬ m.cond t i) : ∀ i, i ≤ m.untl.length → atI m t i = -1
  | 0, _ => rfl
  | i + 1, hi => by
    have := hn i
    rw [cond_iff h (by omega)] at this
    rw [atI, if_neg this, at_none h hn i (by omega)]
theorem at_some {m : MS} {k : Nat} (h : Inv m k) {t : Int} {i : Nat} (hc : m.cond t i) (hu : ∀ q, m.cond t q → q = i) : ∀ n, n ≤ m.untl.length → i < n → atI m t n = i
  | 0, _, hi => by omega
  | n + 1, hn, hi => by
    rw [atI]
    by_cases e : n = i
    · subst e
      rw [if_pos ((cond_iff h (by omega)).1 hc)]
    · rw [if_neg (fun hh => e (hu n ((cond_iff h (by omega)).2 hh))), at_some h hc hu n (by omega) (by omega)]
/-- The token that is reported. -/
def tokOf (l : List Int) (n : Int) : Int := if 0 < l.length ∧ 0 ≤ n then l.getD (n.tmod l.length).toNat 0 else 0
theorem tmod_in {n : Int} {L : Nat} (hn : 0 ≤ n) (hL : 0 < L) : 0 ≤ n.tmod L ∧ n.tmod L < L := ⟨Int.tmod_nonneg _ hn, Int.tmod_lt_of_pos _ (by omega)⟩
end Go.Proofs.Ytloccbmiojhabaa

set_option linter.unusedSimpArgs false
set_option linter.unusedVariables false
set_option maxHeartbeats 4000000
namespace Go.Proofs.Ytloccbmiojhabaa
open Go Go.Amb Go.IntWalk

open Classical in
noncomputable def hasT (l : List Item) (t : Task) : Bool := decide (∃ x ∈ l, x.task = t)
theorem hasT_yes {l : List Item} {t : Task} {x : Item} {i : Nat} (h : l[i]? = some x) (ht : x.task = t) : hasT l t = true := by
  simp only [hasT, decide_eq_true_eq]
  exact ⟨x, List.mem_of_getElem? h, ht⟩
theorem hasT_no {l : List Item} {t : Task} (h : ∀ j, j < l.length → ∀ x, l[j]? = some x → ¬ x.task = t) : hasT l t = false := by
  simp only [hasT, decide_eq_false_iff_not]
  rintro ⟨x, hx, ht⟩
  obtain ⟨j, hj, rfl⟩ := List.getElem_of_mem hx
  exact h j hj _ (List.getElem?_eq_getElem hj) ht
theorem f27 (l : List Item) (t : Task) (hl : l.length ≤ 9223372036854775807) : ACall Try.prog 27 [.sl .fro (l.map Item.tav), .agg t.cells] (· = .bool (hasT l t)) := by
  obtain ⟨a1, a2, a3, a4, a5, a6, a7, a8, a9⟩ := t
  simp only [Task.cells]
  refine a27_of (by simp) ?_
  repeat refine AW.seq ?_
  refine AW.reg ?_
  have hF := True.intro
  repeat (first | refine wD1 ?_ | refine wD2 ?_ | refine wE1 ?_ | refine wE2 ?_ | (refine wE3 ?_; intro _) | (refine wE4 ?_; intro _) | refine wN ?_ | ((with_reducible show evIs _ (_ :: _) _ _); first | refine wQ ?_ | refine wF ?_ | refine wG ?_ | refine wT ?_ | refine wM ?_ | refine wS ?_ | refine wP ?_ | refine wJ ?_ | refine wX ?_ | refine wY ?_))
  clear hF
  repeat refine evDone ?_
  try (show AW _ _ _ _ _)
  repeat refine AW.seq ?_
  refine AW.reg ?_
  have hF := True.intro
  repeat (first | refine wD1 ?_ | refine wD2 ?_ | refine wE1 ?_ | refine wE2 ?_ | (refine wE3 ?_; intro _) | (refine wE4 ?_; intro _) | refine wN ?_ | ((with_reducible show evIs _ (_ :: _) _ _); first | refine wQ ?_ | refine wF ?_ | refine wG ?_ | refine wT ?_ | refine wM ?_ | refine wS ?_ | refine wP ?_ | refine wJ ?_ | refine wX ?_ | refine wY ?_))
  clear hF
  repeat refine evDone ?_
  try (show AW _ _ _ _ _)
  repeat refine AW.seq ?_
  refine AW.block ?_
  refine AW.loop (fun i : Nat => i ≤ l.length ∧ ∀ j, j < i → ∀ x, l[j]? = some x → ¬ x.task = ⟨a1, a2, a3, a4, a5, a6, a7, a8, a9⟩) (fun i => mkS [(0, .sl .fro (l.map Item.tav)), (3, .ptr 0 0 0), (7, .int .i64 l.length), (8, .int .i64 i)] [(0, ⟨9, true, [.agg [.int .i64 a1, .int .i64 a2, .int .i64 a3, .int .i64 a4, .int .i64 a5, .int .i64 a6, .str a7, .str a8, .str a9]]⟩)] 10) (fun i => l.length - i) 0 ⟨by simp, fun j hj => absurd hj (by simp)⟩ ?_ ?_
  · refine Fit.mk _ _ _ (by simp [hl, conv2, newEmp, convs_refl, convs, conv]) (by simp [hl, heapFit, newEmp, conv2s, conv2, convs_refl, convs, conv]) (by intro q hq; first | (simp at hq; done) | (simp at hq; omega) | (simp at hq; simp; omega))
  · rintro i ⟨hi, hno⟩
    repeat refine AW.seq ?_
    refine AW.reg ?_
    by_cases hlt : i < l.length
    · have hF := hlt
      repeat (first | refine wD1 ?_ | refine wD2 ?_ | refine wE1 ?_ | refine wE2 ?_ | (refine wE3 ?_; intro _) | (refine wE4 ?_; intro _) | refine wN ?_ | ((with_reducible show evIs _ (_ :: _) _ _); first | refine wQ ?_ | refine wF ?_ | refine wG ?_ | refine wT ?_ | refine wM ?_ | refine wS ?_ | refine wP ?_ | refine wJ ?_ | refine wX ?_ | refine wY ?_))
      clear hF
      repeat refine evDone ?_
      try (show AW _ _ _ _ _)
      repeat refine AW.seq ?_
      refine AW.condT (by simp []) (by simp []) ?_
      refine AW.skip ?_
      show AW _ _ _ _ _
      refine AW.seq (AW.block ?_)
      obtain ⟨x, hx⟩ : ∃ x, l[i]? = some x := ⟨_, List.getElem?_eq_getElem hlt⟩
      have he := elem_map (f := Item.tav) hx
      have hxx := hx
      obtain ⟨⟨t1, t2, t3, t4, t5, t6, t7, t8, t9⟩, hd, tk, tl, tr⟩ := x
      simp only [Item.tav] at he
      repeat refine AW.seq ?_
      refine AW.reg ?_
      have hF := And.intro (hlt) (he)
      repeat (first | refine wD1 ?_ | refine wD2 ?_ | refine wE1 ?_ | refine wE2 ?_ | (refine wE3 ?_; intro _) | (refine wE4 ?_; intro _) | refine wN ?_ | ((with_reducible show evIs _ (_ :: _) _ _); first | refine wQ ?_ | refine wF ?_ | refine wG ?_ | refine wT ?_ | refine wM ?_ | refine wS ?_ | refine wP ?_ | refine wJ ?_ | refine wX ?_ | refine wY ?_))
      clear hF
      repeat refine evDone ?_
      try (show AW _ _ _ _ _)
      repeat refine AW.seq ?_
      refine AW.draw ?_
      by_cases hc : t1 = a1 ∧ t2 = a2 ∧ t3 = a3 ∧ t4 = a4 ∧ t5 = a5 ∧ t6 = a6 ∧ t7 = a7 ∧ t8 = a8 ∧ t9 = a9
      · obtain ⟨rfl, rfl, rfl, rfl, rfl, rfl, rfl, rfl, rfl⟩ := hc
        have hy := hasT_yes (t := ⟨t1, t2, t3, t4, t5, t6, t7, t8, t9⟩) hxx rfl
        have hF := And.intro (hlt) (he)
        repeat (first | refine wD1 ?_ | refine wD2 ?_ | refine wE1 ?_ | refine wE2 ?_ | (refine wE3 ?_; intro _) | (refine wE4 ?_; intro _) | refine wN ?_ | ((with_reducible show evIs _ (_ :: _) _ _); first | refine wQ ?_ | refine wF ?_ | refine wG ?_ | refine wT ?_ | refine wM ?_ | refine wS ?_ | refine wP ?_ | refine wJ ?_ | refine wX ?_ | refine wY ?_))
        clear hF
        repeat refine evDone ?_
        try (show AW _ _ _ _ _)
        repeat refine AW.seq ?_
        refine AW.condT (by simp []) (by simp []) ?_
        repeat refine AW.seq ?_
        refine AW.reg ?_
        have hF := True.intro
        repeat (first | refine wD1 ?_ | refine wD2 ?_ | refine wE1 ?_ | refine wE2 ?_ | (refine wE3 ?_; intro _) | (refine wE4 ?_; intro _) | refine wN ?_ | ((with_reducible show evIs _ (_ :: _) _ _); first | refine wQ ?_ | refine wF ?_ | refine wG ?_ | refine wT ?_ | refine wM ?_ | refine wS ?_ | refine wP ?_ | refine wJ ?_ | refine wX ?_ | refine wY ?_))
        clear hF
        repeat refine evDone ?_
        try (show AW _ _ _ _ _)
        refine AW.ret (retI rfl ?_)
        simp [hy, a27_res, resOk, resP, resV, ARes.op, R2s, R2, R1s, R1, closeOk, closeV]
      · have hne : ¬ (⟨t1, t2, t3, t4, t5, t6, t7, t8, t9⟩ : Task) = ⟨a1, a2, a3, a4, a5, a6, a7, a8, a9⟩ := by simpa using hc
        have hF := And.intro (hlt) (he)
        repeat (first | refine wD1 ?_ | refine wD2 ?_ | refine wE1 ?_ | refine wE2 ?_ | (refine wE3 ?_; intro _) | (refine wE4 ?_; intro _) | refine wN ?_ | ((with_reducible show evIs _ (_ :: _) _ _); first | refine wQ ?_ | refine wF ?_ | refine wG ?_ | refine wT ?_ | refine wM ?_ | refine wS ?_ | refine wP ?_ | refine wJ ?_ | refine wX ?_ | refine wY ?_))
        clear hF
        repeat refine evDone ?_
        try (show AW _ _ _ _ _)
        refine AW.condF (by simp) (by simpa using hc) ?_
        refine AW.skip ?_
        show AW _ _ _ _ _
        refine AW.reg ?_
        have hw : IntKind.i64.wrap ((i : Int) + 1) = (i : Int) + 1 := i64_in _ ⟨by omega, by omega⟩
        have hF := hw
        repeat (first | refine wD1 ?_ | refine wD2 ?_ | refine wE1 ?_ | refine wE2 ?_ | (refine wE3 ?_; intro _) | (refine wE4 ?_; intro _) | refine wN ?_ | ((with_reducible show evIs _ (_ :: _) _ _); first | refine wQ ?_ | refine wF ?_ | refine wG ?_ | refine wT ?_ | refine wM ?_ | refine wS ?_ | refine wP ?_ | refine wJ ?_ | refine wX ?_ | refine wY ?_))
        clear hF
        repeat refine evDone ?_
        try (show AW _ _ _ _ _)
        refine ⟨i + 1, ⟨by omega, ?_⟩, by omega, ?_⟩
        · intro j hj y hy
          by_cases hji : j = i
          · subst hji; rw [hxx] at hy; injection hy with hy; subst hy; exact hne
          · exact hno j (by omega) y hy
        · refine Fit.mk _ _ _ (by simp [hw, conv2, newEmp, convs_refl, convs, conv]) (by simp [hw, heapFit, newEmp, conv2s, conv2, convs_refl, convs, conv]) (by intro q hq; first | (simp at hq; done) | (simp at hq; omega) | (simp at hq; simp; omega))
    · have hlt2 : ¬ (i : Int) < l.length := by omega
      have hF := And.intro (hlt) (hlt2)
      repeat (first | refine wD1 ?_ | refine wD2 ?_ | refine wE1 ?_ | refine wE2 ?_ | (refine wE3 ?_; intro _) | (refine wE4 ?_; intro _) | refine wN ?_ | ((with_reducible show evIs _ (_ :: _) _ _); first | refine wQ ?_ | refine wF ?_ | refine wG ?_ | refine wT ?_ | refine wM ?_ | refine wS ?_ | refine wP ?_ | refine wJ ?_ | refine wX ?_ | refine wY ?_))
      clear hF
      repeat refine evDone ?_
      try (show AW _ _ _ _ _)
      repeat refine AW.seq ?_
      refine AW.condF (by simp []) (by simp []) ?_
      refine AW.exit ?_
      show AW _ _ _ _ _
      have hii : i = l.length := by omega
      subst hii
      have hn := hasT_no hno
      repeat refine AW.seq ?_
      refine AW.reg ?_
      have hF := True.intro
      repeat (first | refine wD1 ?_ | refine wD2 ?_ | refine wE1 ?_ | refine wE2 ?_ | (refine wE3 ?_; intro _) | (refine wE4 ?_; intro _) | refine wN ?_ | ((with_reducible show evIs _ (_ :: _) _ _); first | refine wQ ?_ | refine wF ?_ | refine wG ?_ | refine wT ?_ | refine wM ?_ | refine wS ?_ | refine wP ?_ | refine wJ ?_ | refine wX ?_ | refine wY ?_))
      clear hF
      repeat refine evDone ?_
      try (show AW _ _ _ _ _)
      refine AW.ret (retI rfl ?_)
      simp [hn, a27_res, resOk, resP, resV, ARes.op, R2s, R2, R1s, R1, closeOk, closeV]
def otherR (xs : List Item) (tok kd t now : Int) : AV := if kd = 2 then ackR xs tok t else if kd = 4 then extR xs tok t now 5 else retR xs tok t
theorem f42 (xs : List Item) (tok kd t now : Int) (hl : xs.length ≤ 1001) (ys : List Item) (tk e : Int) (hs : clC (otherR xs tok kd t now) = .tup [.agg [items ys, .int .i64 tk], .int .i64 e]) :
    ACall Try.prog 42 [.agg [items xs, .int .i64 tok], .int .i64 kd, .int .i64 t, .int .i64 now] (· = .tup [.agg [items ys, .int .i64 tk], .int .i64 e]) := by
  have h18 := f18 xs tok t hl
  have h20 := f20 xs tok t now 5 hl
  have h22 := f22 xs tok t hl
  unfold otherR at hs
  refine a42_of (by simp) ?_
  repeat refine AW.seq ?_
  refine AW.reg ?_
  have hF := True.intro
  repeat (first | refine wD1 ?_ | refine wD2 ?_ | refine wE1 ?_ | refine wE2 ?_ | (refine wE3 ?_; intro _) | (refine wE4 ?_; intro _) | refine wN ?_ | ((with_reducible show evIs _ (_ :: _) _ _); first | refine wQ ?_ | refine wF ?_ | refine wG ?_ | refine wT ?_ | refine wM ?_ | refine wS ?_ | refine wP ?_ | refine wJ ?_ | refine wX ?_ | refine wY ?_))
  clear hF
  repeat refine evDone ?_
  try (show AW _ _ _ _ _)
  repeat refine AW.seq ?_
  refine AW.reg ?_
  have hF := True.intro
  repeat (first | refine wD1 ?_ | refine wD2 ?_ | refine wE1 ?_ | refine wE2 ?_ | (refine wE3 ?_; intro _) | (refine wE4 ?_; intro _) | refine wN ?_ | ((with_reducible show evIs _ (_ :: _) _ _); first | refine wQ ?_ | refine wF ?_ | refine wG ?_ | refine wT ?_ | refine wM ?_ | refine wS ?_ | refine wP ?_ | refine wJ ?_ | refine wX ?_ | refine wY ?_))
  clear hF
  repeat refine evDone ?_
  try (show AW _ _ _ _ _)
  repeat refine AW.seq ?_
  refine AW.block ?_
  repeat refine AW.seq ?_
  refine AW.reg ?_
  by_cases h2 : kd = 2
  · rw [if_pos h2] at hs
    generalize ackR xs tok t = A at h18 hs
    have hF := h2
    repeat (first | refine wD1 ?_ | refine wD2 ?_ | refine wE1 ?_ | refine wE2 ?_ | (refine wE3 ?_; intro _) | (refine wE4 ?_; intro _) | refine wN ?_ | ((with_reducible show evIs _ (_ :: _) _ _); first | refine wQ ?_ | refine wF ?_ | refine wG ?_ | refine wT ?_ | refine wM ?_ | refine wS ?_ | refine wP ?_ | refine wJ ?_ | refine wX ?_ | refine wY ?_))
    clear hF
    repeat refine evDone ?_
    try (show AW _ _ _ _ _)
    repeat refine AW.seq ?_
    refine AW.condT (by simp []) (by simp []) ?_
    repeat refine AW.seq ?_
    refine AW.reg ?_
    have hF := True.intro
    repeat (first | refine wD1 ?_ | refine wD2 ?_ | refine wE1 ?_ | refine wE2 ?_ | (refine wE3 ?_; intro _) | (refine wE4 ?_; intro _) | refine wN ?_ | ((with_reducible show evIs _ (_ :: _) _ _); first | refine wQ ?_ | refine wF ?_ | refine wG ?_ | refine wT ?_ | refine wM ?_ | refine wS ?_ | refine wP ?_ | refine wJ ?_ | refine wX ?_ | refine wY ?_))
    clear hF
    repeat refine evDone ?_
    try (show AW _ _ _ _ _)
    have hF := hs
    refine wC (hA := h18) ?_
    clear hF
    have hF := True.intro
    repeat (first | refine wD1 ?_ | refine wD2 ?_ | refine wE1 ?_ | refine wE2 ?_ | (refine wE3 ?_; intro _) | (refine wE4 ?_; intro _) | refine wN ?_ | ((with_reducible show evIs _ (_ :: _) _ _); first | refine wQ ?_ | refine wF ?_ | refine wG ?_ | refine wT ?_ | refine wM ?_ | refine wS ?_ | refine wP ?_ | refine wJ ?_ | refine wX ?_ | refine wY ?_))
    clear hF
    repeat refine evDone ?_
    try (show AW _ _ _ _ _)
    refine AW.ret (retI rfl ?_)
    simp [a42_res, resOk, resP, resV, ARes.op, R2s, R2, R1s, R1, closeOk, closeV]
  · rw [if_neg h2] at hs
    have hF := h2
    repeat (first | refine wD1 ?_ | refine wD2 ?_ | refine wE1 ?_ | refine wE2 ?_ | (refine wE3 ?_; intro _) | (refine wE4 ?_; intro _) | refine wN ?_ | ((with_reducible show evIs _ (_ :: _) _ _); first | refine wQ ?_ | refine wF ?_ | refine wG ?_ | refine wT ?_ | refine wM ?_ | refine wS ?_ | refine wP ?_ | refine wJ ?_ | refine wX ?_ | refine wY ?_))
    clear hF
    repeat refine evDone ?_
    try (show AW _ _ _ _ _)
    repeat refine AW.seq ?_
    refine AW.condF (by simp [h2]) (by simp [h2]) ?_
    repeat refine AW.seq ?_
    refine AW.reg ?_
    by_cases h4 : kd = 4
    · rw [if_pos h4] at hs
      generalize extR xs tok t now 5 = A at h20 hs
      have hF := h4
      repeat (first | refine wD1 ?_ | refine wD2 ?_ | refine wE1 ?_ | refine wE2 ?_ | (refine wE3 ?_; intro _) | (refine wE4 ?_; intro _) | refine wN ?_ | ((with_reducible show evIs _ (_ :: _) _ _); first | refine wQ ?_ | refine wF ?_ | refine wG ?_ | refine wT ?_ | refine wM ?_ | refine wS ?_ | refine wP ?_ | refine wJ ?_ | refine wX ?_ | refine wY ?_))
      clear hF
      repeat refine evDone ?_
      try (show AW _ _ _ _ _)
      repeat refine AW.seq ?_
      refine AW.condT (by simp []) (by simp []) ?_
      repeat refine AW.seq ?_
      refine AW.reg ?_
      have hF := True.intro
      repeat (first | refine wD1 ?_ | refine wD2 ?_ | refine wE1 ?_ | refine wE2 ?_ | (refine wE3 ?_; intro _) | (refine wE4 ?_; intro _) | refine wN ?_ | ((with_reducible show evIs _ (_ :: _) _ _); first | refine wQ ?_ | refine wF ?_ | refine wG ?_ | refine wT ?_ | refine wM ?_ | refine wS ?_ | refine wP ?_ | refine wJ ?_ | refine wX ?_ | refine wY ?_))
      clear hF
      repeat refine evDone ?_
      try (show AW _ _ _ _ _)
      have hF := hs
      refine wC (hA := h20) ?_
      clear hF
      have hF := True.intro
      repeat (first | refine wD1 ?_ | refine wD2 ?_ | refine wE1 ?_ | refine wE2 ?_ | (refine wE3 ?_; intro _) | (refine wE4 ?_; intro _) | refine wN ?_ | ((with_reducible show evIs _ (_ :: _) _ _); first | refine wQ ?_ | refine wF ?_ | refine wG ?_ | refine wT ?_ | refine wM ?_ | refine wS ?_ | refine wP ?_ | refine wJ ?_ | refine wX ?_ | refine wY ?_))
      clear hF
      repeat refine evDone ?_
      try (show AW _ _ _ _ _)
      refine AW.ret (retI rfl ?_)
      simp [a42_res, resOk, resP, resV, ARes.op, R2s, R2, R1s, R1, closeOk, closeV]
    · rw [if_neg h4] at hs
      generalize retR xs tok t = A at h22 hs
      have hF := h4
      repeat (first | refine wD1 ?_ | refine wD2 ?_ | refine wE1 ?_ | refine wE2 ?_ | (refine wE3 ?_; intro _) | (refine wE4 ?_; intro _) | refine wN ?_ | ((with_reducible show evIs _ (_ :: _) _ _); first | refine wQ ?_ | refine wF ?_ | refine wG ?_ | refine wT ?_ | refine wM ?_ | refine wS ?_ | refine wP ?_ | refine wJ ?_ | refine wX ?_ | refine wY ?_))
      clear hF
      repeat refine evDone ?_
      try (show AW _ _ _ _ _)
      repeat refine AW.seq ?_
      refine AW.condF (by simp [h4]) (by simp [h4]) ?_
      refine AW.skip ?_
      show AW _ _ _ _ _
      repeat refine AW.seq ?_
      refine AW.reg ?_
      have hF := True.intro
      repeat (first | refine wD1 ?_ | refine wD2 ?_ | refine wE1 ?_ | refine wE2 ?_ | (refine wE3 ?_; intro _) | (refine wE4 ?_; intro _) | refine wN ?_ | ((with_reducible show evIs _ (_ :: _) _ _); first | refine wQ ?_ | refine wF ?_ | refine wG ?_ | refine wT ?_ | refine wM ?_ | refine wS ?_ | refine wP ?_ | refine wJ ?_ | refine wX ?_ | refine wY ?_))
      clear hF
      repeat refine evDone ?_
      try (show AW _ _ _ _ _)
      have hF := hs
      refine wC (hA := h22) ?_
      clear hF
      have hF := True.intro
      repeat (first | refine wD1 ?_ | refine wD2 ?_ | refine wE1 ?_ | refine wE2 ?_ | (refine wE3 ?_; intro _) | (refine wE4 ?_; intro _) | refine wN ?_ | ((with_reducible show evIs _ (_ :: _) _ _); first | refine wQ ?_ | refine wF ?_ | refine wG ?_ | refine wT ?_ | refine wM ?_ | refine wS ?_ | refine wP ?_ | refine wJ ?_ | refine wX ?_ | refine wY ?_))
      clear hF
      repeat refine evDone ?_
      try (show AW _ _ _ _ _)
      refine AW.ret (retI rfl ?_)
      simp [a42_res, resOk, resP, resV, ARes.op, R2s, R2, R1s, R1, closeOk, closeV]

def ints (l : List Int) : List AV := l.map (.int .i64)
@[simp] theorem ints_length (l : List Int) : (ints l).length = l.length := by simp [ints]
theorem ints_app (l : List Int) (a : Int) : ints l ++ [.int .i64 a] = ints (l ++ [a]) := by simp [ints]
theorem ints_at {l : List Int} {i : Nat} {a : Int} (h : l[i]? = some a) : elemAt (ints l) i = .int .i64 a := elem_map h
theorem ints_set (l : List Int) (i : Nat) (a : Int) : (ints l).set i (.int .i64 a) = ints (l.set i a) := by simp [ints]
def boxv (m : MS) (rt ru ro : Nat) : AV := .agg [items m.xs, .int .i64 m.tok, .int .i64 m.now, .hdr rt 0 m.toks.length, .hdr ru 0 m.untl.length, .hdr ro 0 m.own.length]
def heapv (m : MS) (rt ru ro : Nat) : List (Nat × Blk) := [(7, ⟨6, true, [boxv m rt ru ro]⟩), (rt, ⟨1, false, ints m.toks⟩), (ru, ⟨1, false, ints m.untl⟩), (ro, ⟨1, false, ints m.own⟩)]
def Roots (N rt ru ro : Nat) : Prop := 8 ≤ rt ∧ 8 ≤ ru ∧ 8 ≤ ro ∧ rt < N ∧ ru < N ∧ ro < N ∧ rt ≠ ru ∧ rt ≠ ro ∧ ru ≠ ro
def Post (k N rt ru ro : Nat) (H1 : List (Nat × Blk)) (n' : Nat) (v : AV) : Prop :=
  ∃ m rt' ru' ro', Inv m (k + 1) ∧ Roots (N + 200) rt' ru' ro' ∧ H1 = heapv m rt' ru' ro' ∧ n' = N + 200 ∧ v = .bool true
theorem f24 {m : MS} {k : Nat} (h : Inv m k) (h' : Inv m (k + 1)) (hk : k ≤ 200) (N rt ru ro : Nat) (hR : Roots N rt ru ro) (hN7 : 7 < N) : BCall Try.prog 24 (heapv m rt ru ro) N [.ptr 7 0 0] (Post k N rt ru ro) := by
  obtain ⟨hr1, hr2, hr3, hr4, hr5, hr6, hr7, hr8, hr9⟩ := hR
  have hD : (rt = 7) = False ∧ (7 = rt) = False ∧ (ru = 7) = False ∧ (7 = ru) = False ∧ (ro = 7) = False ∧ (7 = ro) = False ∧ (rt = ru) = False ∧ (ru = rt) = False ∧ (rt = ro) = False ∧ (ro = rt) = False ∧ (ru = ro) = False ∧ (ro = ru) = False := by
    refine ⟨?_, ?_, ?_, ?_, ?_, ?_, ?_, ?_, ?_, ?_, ?_, ?_⟩ <;> exact eq_false (by omega)
  have hN : (∀ k, (rt = N + k) = False) ∧ (∀ k, (N + k = rt) = False) ∧ (∀ k, (ru = N + k) = False) ∧ (∀ k, (N + k = ru) = False) ∧ (∀ k, (ro = N + k) = False) ∧ (∀ k, (N + k = ro) = False) ∧ (∀ k, (7 = N + k) = False) ∧ (∀ k, (N + k = 7) = False) ∧ (∀ k, (N + k < N) = False) := by
    refine ⟨?_, ?_, ?_, ?_, ?_, ?_, ?_, ?_, ?_⟩ <;> exact fun k => eq_false (by omega)
  have hL : (∀ k, rt < N + k) ∧ (∀ k, ru < N + k) ∧ (∀ k, ro < N + k) ∧ (∀ k, 7 < N + k) := by
    refine ⟨?_, ?_, ?_, ?_⟩ <;> exact fun k => by omega
  have hB : rt < N ∧ ru < N ∧ ro < N ∧ 7 < N := by refine ⟨?_, ?_, ?_, ?_⟩ <;> omega
  have hun := h.n
  have hlen := h.len
  have hxs := h.nx
  have hw : IntKind.i64.wrap ((m.untl.length : Int) + 1) = (m.untl.length : Int) + 1 := i64_in _ ⟨by omega, by omega⟩
  obtain ⟨he1, he2, he3⟩ := h.addR hk
  have h9 := f9 m.xs m.tok (wt (m.untl.length + 1)) (by omega)
  rw [he1, he2, he3] at h9
  simp only [Task.cells, wt] at h9
  have hsh := clC_qv (.own 13) (.inr ⟨_, rfl⟩) m.add.xs m.tok
  unfold qq at hsh
  have h28 := f28 ((m.untl.length : Int) + 1) 0
  have hy1 : (m.untl.length + 1) * 8 ≤ 140737488355328 := by omega
  have hy2 : m.untl.length + 1 ≤ 9223372036854775807 := by omega
  have ha1 := ints_app m.untl 0
  have ha2 := ints_app m.own 0
  have hI := h.add h'
  unfold heapv boxv
  refine bcall_coded a24_ok (by simp) ?_
  repeat refine AW.seq ?_
  refine AW.reg ?_
  have hF := True.intro
  repeat (first | refine wD1 ?_ | refine wD2 ?_ | refine wE1 ?_ | refine wE2 ?_ | (refine wE3 ?_; intro _) | (refine wE4 ?_; intro _) | refine wN ?_ | ((with_reducible show evIs _ (_ :: _) _ _); first | refine wQ ?_ | refine wF ?_ | refine wG ?_ | refine wT ?_ | refine wM ?_ | refine wS ?_ | refine wP ?_ | refine wJ ?_ | refine wX ?_ | refine wY ?_))
  clear hF
  repeat refine evDone ?_
  try (show AW _ _ _ _ _)
  generalize hq : qv (.own 13) m.add.xs m.tok = A at h9 hsh
  refine AW.cut (st' := mkS [(0, .ptr 7 0 0), (3, .ptr (N + 17) 0 0), (4, .bool true), (5, .int .i64 0)] [(7, ⟨6, true, [.agg [items m.xs, .int .i64 m.tok, .int .i64 m.now, .hdr rt 0 m.toks.length, .hdr ru 0 m.untl.length, .hdr ro 0 m.own.length]]⟩), (rt, ⟨1, false, ints m.toks⟩), (ru, ⟨1, false, ints m.untl⟩), (ro, ⟨1, false, ints m.own⟩), (N + 17, ⟨2, true, [.agg [items m.add.xs, .int .i64 m.tok]]⟩)] (N + 20)) ?_ ?_
  · refine AW.draw ?_
    have hF := And.intro (hw) (And.intro (hD) (hN))
    repeat (first | refine wD1 ?_ | refine wD2 ?_ | refine wE1 ?_ | refine wE2 ?_ | (refine wE3 ?_; intro _) | (refine wE4 ?_; intro _) | refine wN ?_ | ((with_reducible show evIs _ (_ :: _) _ _); first | refine wQ ?_ | refine wF ?_ | refine wG ?_ | refine wT ?_ | refine wM ?_ | refine wS ?_ | refine wP ?_ | refine wJ ?_ | refine wX ?_ | refine wY ?_))
    clear hF
    repeat refine evDone ?_
    try (show AW _ _ _ _ _)
    refine evTwo ?_ ?_
    · have hF := And.intro (hw) (And.intro (hD) (hN))
      repeat (first | refine wD1 ?_ | refine wD2 ?_ | refine wE1 ?_ | refine wE2 ?_ | (refine wE3 ?_; intro _) | (refine wE4 ?_; intro _) | refine wN ?_ | ((with_reducible show evIs _ (_ :: _) _ _); first | refine wQ ?_ | refine wF ?_ | refine wG ?_ | refine wT ?_ | refine wM ?_ | refine wS ?_ | refine wP ?_ | refine wJ ?_ | refine wX ?_ | refine wY ?_))
      clear hF
      repeat refine evDone ?_
      try (show AW _ _ _ _ _)
      have hF := And.intro (hw) (And.intro (hD) (hN))
      refine wC (hA := h28) ?_
      clear hF
      have hF := And.intro (hw) (And.intro (hD) (hN))
      repeat (first | refine wD1 ?_ | refine wD2 ?_ | refine wE1 ?_ | refine wE2 ?_ | (refine wE3 ?_; intro _) | (refine wE4 ?_; intro _) | refine wN ?_ | ((with_reducible show evIs _ (_ :: _) _ _); first | refine wQ ?_ | refine wF ?_ | refine wG ?_ | refine wT ?_ | refine wM ?_ | refine wS ?_ | refine wP ?_ | refine wJ ?_ | refine wX ?_ | refine wY ?_))
      clear hF
      repeat refine evDone ?_
      try (show AW _ _ _ _ _)
      refine evTwo ?_ ?_
      · have hF := And.intro (hw) (And.intro (hD) (hN))
        repeat (first | refine wD1 ?_ | refine wD2 ?_ | refine wE1 ?_ | refine wE2 ?_ | (refine wE3 ?_; intro _) | (refine wE4 ?_; intro _) | refine wN ?_ | ((with_reducible show evIs _ (_ :: _) _ _); first | refine wQ ?_ | refine wF ?_ | refine wG ?_ | refine wT ?_ | refine wM ?_ | refine wS ?_ | refine wP ?_ | refine wJ ?_ | refine wX ?_ | refine wY ?_))
        clear hF
        repeat refine evDone ?_
        try (show AW _ _ _ _ _)
        have hF := And.intro (hsh) (And.intro (hD) (hN))
        refine wC (hA := h9) ?_
        clear hF
        have hF := And.intro (hw) (And.intro (hD) (hN))
        repeat (first | refine wD1 ?_ | refine wD2 ?_ | refine wE1 ?_ | refine wE2 ?_ | (refine wE3 ?_; intro _) | (refine wE4 ?_; intro _) | refine wN ?_ | ((with_reducible show evIs _ (_ :: _) _ _); first | refine wQ ?_ | refine wF ?_ | refine wG ?_ | refine wT ?_ | refine wM ?_ | refine wS ?_ | refine wP ?_ | refine wJ ?_ | refine wX ?_ | refine wY ?_))
        clear hF
        repeat refine evDone ?_
        try (show AW _ _ _ _ _)
        refine ⟨rfl, ?_⟩
        refine Fit.mk _ _ _ (by simp [hD, hN, hL, conv2, newEmp, convs_refl, convs, conv]) (by simp [hD, hN, hL, heapFit, newEmp, conv2s, conv2, convs_refl, convs, conv]) (by intro q hq; first | (simp at hq; done) | (simp at hq; omega) | (simp at hq; simp; omega))
      · have hF := And.intro (hw) (And.intro (hD) (hN))
        repeat (first | refine wD1 ?_ | refine wD2 ?_ | refine wE1 ?_ | refine wE2 ?_ | (refine wE3 ?_; intro _) | (refine wE4 ?_; intro _) | refine wN ?_ | ((with_reducible show evIs _ (_ :: _) _ _); first | refine wQ ?_ | refine wF ?_ | refine wG ?_ | refine wT ?_ | refine wM ?_ | refine wS ?_ | refine wP ?_ | refine wJ ?_ | refine wX ?_ | refine wY ?_))
        clear hF
        repeat refine evDone ?_
        try (show AW _ _ _ _ _)
        have hF := And.intro (hsh) (And.intro (hD) (hN))
        refine wC (hA := h9) ?_
        clear hF
        have hF := And.intro (hw) (And.intro (hD) (hN))
        repeat (first | refine wD1 ?_ | refine wD2 ?_ | refine wE1 ?_ | refine wE2 ?_ | (refine wE3 ?_; intro _) | (refine wE4 ?_; intro _) | refine wN ?_ | ((with_reducible show evIs _ (_ :: _) _ _); first | refine wQ ?_ | refine wF ?_ | refine wG ?_ | refine wT ?_ | refine wM ?_ | refine wS ?_ | refine wP ?_ | refine wJ ?_ | refine wX ?_ | refine wY ?_))
        clear hF
        repeat refine evDone ?_
        try (show AW _ _ _ _ _)
        refine ⟨rfl, ?_⟩
        refine Fit.mk _ _ _ (by simp [hD, hN, hL, conv2, newEmp, convs_refl, convs, conv]) (by simp [hD, hN, hL, heapFit, newEmp, conv2s, conv2, convs_refl, convs, conv]) (by intro q hq; first | (simp at hq; done) | (simp at hq; omega) | (simp at hq; simp; omega))
    · have hF := And.intro (hw) (And.intro (hD) (hN))
      repeat (first | refine wD1 ?_ | refine wD2 ?_ | refine wE1 ?_ | refine wE2 ?_ | (refine wE3 ?_; intro _) | (refine wE4 ?_; intro _) | refine wN ?_ | ((with_reducible show evIs _ (_ :: _) _ _); first | refine wQ ?_ | refine wF ?_ | refine wG ?_ | refine wT ?_ | refine wM ?_ | refine wS ?_ | refine wP ?_ | refine wJ ?_ | refine wX ?_ | refine wY ?_))
      clear hF
      repeat refine evDone ?_
      try (show AW _ _ _ _ _)
      have hF := And.intro (hw) (And.intro (hD) (hN))
      refine wC (hA := h28) ?_
      clear hF
      have hF := And.intro (hw) (And.intro (hD) (hN))
      repeat (first | refine wD1 ?_ | refine wD2 ?_ | refine wE1 ?_ | refine wE2 ?_ | (refine wE3 ?_; intro _) | (refine wE4 ?_; intro _) | refine wN ?_ | ((with_reducible show evIs _ (_ :: _) _ _); first | refine wQ ?_ | refine wF ?_ | refine wG ?_ | refine wT ?_ | refine wM ?_ | refine wS ?_ | refine wP ?_ | refine wJ ?_ | refine wX ?_ | refine wY ?_))
      clear hF
      repeat refine evDone ?_
      try (show AW _ _ _ _ _)
      have hF := And.intro (hsh) (And.intro (hD) (hN))
      refine wC (hA := h9) ?_
      clear hF
      have hF := And.intro (hw) (And.intro (hD) (hN))
      repeat (first | refine wD1 ?_ | refine wD2 ?_ | refine wE1 ?_ | refine wE2 ?_ | (refine wE3 ?_; intro _) | (refine wE4 ?_; intro _) | refine wN ?_ | ((with_reducible show evIs _ (_ :: _) _ _); first | refine wQ ?_ | refine wF ?_ | refine wG ?_ | refine wT ?_ | refine wM ?_ | refine wS ?_ | refine wP ?_ | refine wJ ?_ | refine wX ?_ | refine wY ?_))
      clear hF
      repeat refine evDone ?_
      try (show AW _ _ _ _ _)
      refine ⟨rfl, ?_⟩
      refine Fit.mk _ _ _ (by simp [hD, hN, hL, conv2, newEmp, convs_refl, convs, conv]) (by simp [hD, hN, hL, heapFit, newEmp, conv2s, conv2, convs_refl, convs, conv]) (by intro q hq; first | (simp at hq; done) | (simp at hq; omega) | (simp at hq; simp; omega))
  repeat refine AW.seq ?_
  refine AW.reg ?_
  have hF := And.intro (hD) (hN)
  repeat (first | refine wD1 ?_ | refine wD2 ?_ | refine wE1 ?_ | refine wE2 ?_ | (refine wE3 ?_; intro _) | (refine wE4 ?_; intro _) | refine wN ?_ | ((with_reducible show evIs _ (_ :: _) _ _); first | refine wQ ?_ | refine wF ?_ | refine wG ?_ | refine wT ?_ | refine wM ?_ | refine wS ?_ | refine wP ?_ | refine wJ ?_ | refine wX ?_ | refine wY ?_))
  clear hF
  repeat refine evDone ?_
  try (show AW _ _ _ _ _)
  refine AW.fit (st' := mkS [(0, .ptr 7 0 0), (4, .bool true), (5, .int .i64 0)] [(7, ⟨6, true, [.agg [items m.add.xs, .int .i64 m.tok, .int .i64 m.now, .hdr rt 0 m.toks.length, .hdr ru 0 m.untl.length, .hdr ro 0 m.own.length]]⟩), (rt, ⟨1, false, ints m.toks⟩), (ru, ⟨1, false, ints m.untl⟩), (ro, ⟨1, false, ints m.own⟩)] (N + 20)) ?_ ?_
  · refine Fit.mk _ _ _ (by simp [hD, hN, hL, conv2, newEmp, convs_refl, convs, conv]) (by simp [hD, hN, hL, heapFit, newEmp, conv2s, conv2, convs_refl, convs, conv]) (by intro q hq; first | (simp at hq; done) | (simp at hq; omega) | (simp at hq; simp; omega))
  obtain ⟨M, hM⟩ : ∃ M, M = N + 20 := ⟨_, rfl⟩
  rw [← hM]
  have hM1 : M < N + 168 ∧ M < N + 158 := by omega
  have hN2 : (∀ k, (rt = M + k) = False) ∧ (∀ k, (M + k = rt) = False) ∧ (∀ k, (ru = M + k) = False) ∧ (∀ k, (M + k = ru) = False) ∧ (∀ k, (ro = M + k) = False) ∧ (∀ k, (M + k = ro) = False) ∧ (∀ k, (7 = M + k) = False) ∧ (∀ k, (M + k = 7) = False) ∧ (∀ k, (M + k < M) = False) := by
    refine ⟨?_, ?_, ?_, ?_, ?_, ?_, ?_, ?_, ?_⟩ <;> exact fun k => eq_false (by omega)
  have hL2 : (∀ k, rt < M + k) ∧ (∀ k, ru < M + k) ∧ (∀ k, ro < M + k) ∧ (∀ k, 7 < M + k) := by
    refine ⟨?_, ?_, ?_, ?_⟩ <;> exact fun k => by omega
  have hB2 : rt < M ∧ ru < M ∧ ro < M ∧ 7 < M := by refine ⟨?_, ?_, ?_, ?_⟩ <;> omega
  repeat refine AW.seq ?_
  refine AW.reg ?_
  have hF := And.intro (hD) (And.intro (hN2) (And.intro (hy1) (hy2)))
  repeat (first | refine wD1 ?_ | refine wD2 ?_ | refine wE1 ?_ | refine wE2 ?_ | (refine wE3 ?_; intro _) | (refine wE4 ?_; intro _) | refine wN ?_ | ((with_reducible show evIs _ (_ :: _) _ _); first | refine wQ ?_ | refine wF ?_ | refine wG ?_ | refine wT ?_ | refine wM ?_ | refine wS ?_ | refine wP ?_ | refine wJ ?_ | refine wX ?_ | refine wY ?_))
  clear hF
  repeat refine evDone ?_
  try (show AW _ _ _ _ _)
  have hy3 : (m.own.length + 1) * 8 ≤ 140737488355328 := by omega
  have hy4 : m.own.length + 1 ≤ 9223372036854775807 := by omega
  repeat refine AW.seq ?_
  refine AW.reg ?_
  have hF := And.intro (hD) (And.intro (hN2) (And.intro (hy3) (hy4)))
  repeat (first | refine wD1 ?_ | refine wD2 ?_ | refine wE1 ?_ | refine wE2 ?_ | (refine wE3 ?_; intro _) | (refine wE4 ?_; intro _) | refine wN ?_ | ((with_reducible show evIs _ (_ :: _) _ _); first | refine wQ ?_ | refine wF ?_ | refine wG ?_ | refine wT ?_ | refine wM ?_ | refine wS ?_ | refine wP ?_ | refine wJ ?_ | refine wX ?_ | refine wY ?_))
  clear hF
  repeat refine evDone ?_
  try (show AW _ _ _ _ _)
  repeat refine AW.seq ?_
  refine AW.reg ?_
  have hF := True.intro
  repeat (first | refine wD1 ?_ | refine wD2 ?_ | refine wE1 ?_ | refine wE2 ?_ | (refine wE3 ?_; intro _) | (refine wE4 ?_; intro _) | refine wN ?_ | ((with_reducible show evIs _ (_ :: _) _ _); first | refine wQ ?_ | refine wF ?_ | refine wG ?_ | refine wT ?_ | refine wM ?_ | refine wS ?_ | refine wP ?_ | refine wJ ?_ | refine wX ?_ | refine wY ?_))
  clear hF
  repeat refine evDone ?_
  try (show AW _ _ _ _ _)
  refine AW.ret ⟨by simp [resP, a24_res, ARes.op], heapv (m.add) (rt) (M + 32) (M + 42), N + 200, [.bool true], ⟨m.add, rt, M + 32, M + 42, hI, by unfold Roots; omega, rfl, rfl, rfl⟩, by omega, ?_, rfl, by simp, ?_⟩
  · intro p hp
    by_cases hpN : N ≤ p.1
    · exact .inr hpN
    · simp [heapv] at hp
      rcases hp with rfl | rfl | rfl | rfl <;> first | (left; simp [hD]; done) | (exfalso; simp at hpN; omega)
  simp only [resV, a24_res, List.map_cons, List.map_nil, ARes.op, heapv, boxv]
  refine Fit.mk _ _ _ (by simp [MS.add, hD, hN2, hL, hM1, ha1, ha2, conv2, newEmp, convs_refl, convs, conv]) (by simp [MS.add, hD, hN2, hL, hM1, ha1, ha2, heapFit, newEmp, conv2s, conv2, convs_refl, convs, conv]) (by intro q hq; first | (simp at hq; done) | (simp at hq; omega) | (simp at hq; simp; omega))
end Go.Proofs.Ytloccbmiojhabaa
