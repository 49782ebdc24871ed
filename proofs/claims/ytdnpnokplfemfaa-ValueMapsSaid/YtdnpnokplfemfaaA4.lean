/- Code and its abstract form; the rules by which a function's body is walked. -/
import Derived.Test.YtdnpnokplfemfaaA2

set_option linter.unusedSimpArgs false
set_option linter.unusedVariables false
namespace Go.Amb
open Go Go.RowKit

theorem chkIs_get {P : Program} {n : Nat} {ops : Array Oper} : ∀ (os : List Oper) (is : List AI), chkIs P n ops os is = true → ∀ (j : Nat) (o : Oper), os[j]? = some o → ∃ i : AI, is[j]? = some i ∧ chkI P n ops o i = true
  | [], [], _, j, o, h => by simp at h
  | o :: os, i :: is, hc, j, o', h => by
    simp only [chkIs, Bool.and_eq_true] at hc
    cases j with
    | zero => simp at h; subst h; exact ⟨i, rfl, hc.1⟩
    | succ j => simp at h; obtain ⟨i', h1, h2⟩ := chkIs_get os is hc.2 j o' h; exact ⟨i', by simpa using h1, h2⟩
  | [], _ :: _, hc, _, _, _ => by simp [chkIs] at hc
  | _ :: _, [], hc, _, _, _ => by simp [chkIs] at hc

section
variable {E : Env} {st : St} {a : Act} {w w' : World} {pl pl' : Pls} {fp : Nat → List Nat} {o : Oper} {k : Nat} {i : AI} {K : St → Prop} {Q : Exit → Act → World → Prop} {ops : Array Oper} {is : List AI} {ws : List (Nat × List Nat)}

theorem evAny_sound (hc : chkIs E.P E.n ops ops.toList is = true) (hq : ∀ st' a' w', K st' → Rel E st' a' w' → Q .normal a' w') :
    ∀ (fuel : Nat) (L : Array Bool) (st : St) (a : Act) (w : World), Rel E st a w → evAny E.P ops is ws K fuel L st → wpAny E.P .any ops Q fuel L a w := by
  intro fuel
  induction fuel with
  | zero => intro L st a w hR h; exact ⟨h.1, hq _ _ _ h.2 hR⟩
  | succ fuel ih =>
    intro L st a w hR h
    refine ⟨fun e => hq _ _ _ (h.1 e) hR, fun j hj => ?_⟩
    have h1 := h.2 j hj
    obtain ⟨o, ho⟩ := (ready_iff.1 hj).2.1
    obtain ⟨ii, hi, hci⟩ := chkIs_get _ _ hc j o (by simpa using ho)
    unfold ev1w at h1
    rw [hi] at h1
    refine wpOp_mono ?_ (ev1_sound (Q := Q) ho hci hR h1)
    rintro a' w' ⟨st', ⟨_, h2⟩, hR'⟩
    exact ih _ st' a' w' hR' h2

theorem rel_drew (hR : Rel E st a w) (n : Nat) : Rel E st a { w with drawn := n } := by
  obtain ⟨pl, fp, hR⟩ := hR
  exact ⟨pl, fp, hR.ext ⟨rfl, rfl, rfl, Nat.le_refl _, fun _ _ => rfl⟩⟩

theorem draw_sound {id : Nat} {t : Sch} (hm : E.P.follows .mixedOrders = true) (hc : chkIs E.P E.n ops ops.toList is = true) (hw : wsOk ops is ws (masks ops.toList []) = true)
    (ht : t.ok ops is ws (masks ops.toList []) ops.size (Array.replicate ops.size false) = true) (hR : Rel E st a w) (h : evT E.P is ws t st K) (hq : ∀ st' a' w', K st' → Rel E st' a' w' → Q .normal a' w') :
    (Code.region id ops true).wp E.P Q a w := by
  refine wp_region_any hm ?_
  refine evAny_sound (ws := ws) hc hq _ _ st a _ (rel_drew hR _) ?_
  refine evT_any (fun j ho => ?_) (wsOk_spec hw) t _ _ st ht ?_ h
  · obtain ⟨o, ho⟩ := ho
    obtain ⟨ii, hi, _⟩ := chkIs_get _ _ hc j o (by simpa using ho)
    exact ⟨ii, hi⟩
  · intro j i hj _
    exfalso
    unfold Listed at hj
    rcases Nat.lt_or_ge j ops.size with h' | h' <;> simp [h'] at hj
end

/-! ### code -/
inductive ACode where
  | skip
  | seq (x y : ACode)
  | cond (c : AOpr) (x y : ACode)
  | block (id : Nat) (c : ACode)
  | loop (c : ACode)
  | exit (id : Nat)
  | ret
  | reg (is : List AI)
  | draw (is : List AI) (ws : List (Nat × List Nat)) (t : Sch)

def chkCode (P : Program) (n : Nat) : Code → ACode → Bool
  | .skip, .skip => true
  | .seq x y, .seq x' y' => chkCode P n x x' && chkCode P n y y'
  | .cond c x y, .cond c' x' y' => chkX c c' && chkCode P n x x' && chkCode P n y y'
  | .block id c, .block id' c' => id == id' && chkCode P n c c'
  | .loop c, .loop c' => chkCode P n c c'
  | .exit id, .exit id' => id == id'
  | .ret, .ret => true
  | .region _ ops false, .reg is => chkIs P n ops ops.toList is
  | .region _ ops true, .draw is ws t => P.follows .mixedOrders && chkIs P n ops ops.toList is && wsOk ops is ws (masks ops.toList []) && t.ok ops is ws (masks ops.toList []) ops.size (Array.replicate ops.size false)
  | _, _ => false

/-- How a piece of code ends. -/
inductive AE where
  | normal | exit (id : Nat) | ret
def AE.of : Exit → Option AE
  | .normal => some .normal
  | .exit id => some (.exit id)
  | .ret => some .ret
  | _ => none
def postOf (E : Env) (Q : AE → St → Prop) (e : Exit) (a : Act) (w : World) : Prop := ∃ e', AE.of e = some e' ∧ ∃ st, Q e' st ∧ Rel E st a w
/-- From this state the code comes to an end of which Q holds. -/
def AW (P : Program) (n : Nat) (ac : ACode) (st : St) (Q : AE → St → Prop) : Prop :=
  ∀ (c : Code), chkCode P n c ac = true → ∀ (E : Env) (a : Act) (w : World), E.P = P → E.n = n → Rel E st a w → c.wp P (postOf E Q) a w

section
variable {P : Program} {n : Nat} {c : Code}
theorem inv_skip (h : chkCode P n c .skip = true) : c = .skip := by
  cases c with
  | skip => rfl
  | region id ops d => cases d <;> simp [chkCode] at h
  | _ => simp [chkCode] at h
theorem inv_ret (h : chkCode P n c .ret = true) : c = .ret := by
  cases c with
  | ret => rfl
  | region id ops d => cases d <;> simp [chkCode] at h
  | _ => simp [chkCode] at h
theorem inv_exit {id : Nat} (h : chkCode P n c (.exit id) = true) : c = .exit id := by
  cases c with
  | exit id' => simp [chkCode] at h; rw [h]
  | region id ops d => cases d <;> simp [chkCode] at h
  | _ => simp [chkCode] at h
theorem inv_seq {x y : ACode} (h : chkCode P n c (.seq x y) = true) : ∃ a b, c = .seq a b ∧ chkCode P n a x = true ∧ chkCode P n b y = true := by
  cases c with
  | seq a b => simp only [chkCode, Bool.and_eq_true] at h; exact ⟨a, b, rfl, h⟩
  | region id ops d => cases d <;> simp [chkCode] at h
  | _ => simp [chkCode] at h
theorem inv_cond {cx : AOpr} {x y : ACode} (h : chkCode P n c (.cond cx x y) = true) : ∃ z a b, c = .cond z a b ∧ chkX z cx = true ∧ chkCode P n a x = true ∧ chkCode P n b y = true := by
  cases c with
  | cond z a b => simp only [chkCode, Bool.and_eq_true] at h; exact ⟨z, a, b, rfl, h.1.1, h.1.2, h.2⟩
  | region id ops d => cases d <;> simp [chkCode] at h
  | _ => simp [chkCode] at h
theorem inv_block {id : Nat} {x : ACode} (h : chkCode P n c (.block id x) = true) : ∃ a, c = .block id a ∧ chkCode P n a x = true := by
  cases c with
  | block id' a => simp only [chkCode, Bool.and_eq_true, beq_iff_eq] at h; exact ⟨a, by rw [h.1], h.2⟩
  | region id ops d => cases d <;> simp [chkCode] at h
  | _ => simp [chkCode] at h
theorem inv_loop {x : ACode} (h : chkCode P n c (.loop x) = true) : ∃ a, c = .loop a ∧ chkCode P n a x = true := by
  cases c with
  | loop a => exact ⟨a, rfl, h⟩
  | region id ops d => cases d <;> simp [chkCode] at h
  | _ => simp [chkCode] at h
theorem inv_reg {is : List AI} (h : chkCode P n c (.reg is) = true) : ∃ id ops, c = .region id ops false ∧ chkIs P n ops ops.toList is = true := by
  cases c with
  | region id ops d => cases d <;> simp only [chkCode] at h; exact ⟨id, ops, rfl, h⟩; cases h
  | _ => simp [chkCode] at h
theorem inv_draw {is : List AI} {ws : List (Nat × List Nat)} {t : Sch} (h : chkCode P n c (.draw is ws t) = true) : ∃ id ops, c = .region id ops true ∧ P.follows .mixedOrders = true ∧ chkIs P n ops ops.toList is = true ∧
    wsOk ops is ws (masks ops.toList []) = true ∧ t.ok ops is ws (masks ops.toList []) ops.size (Array.replicate ops.size false) = true := by
  cases c with
  | region id ops d =>
    cases d <;> simp only [chkCode, Bool.and_eq_true] at h
    · cases h
    · exact ⟨id, ops, rfl, h.1.1.1, h.1.1.2, h.1.2, h.2⟩
  | _ => simp [chkCode] at h
end

section
variable {P : Program} {n : Nat} {st st' : St} {Q Q' : AE → St → Prop} {x y : ACode}

/-- Whatever stands for the one state stands for the other. -/
def Fit (st st' : St) : Prop := ∀ E a w, Rel E st a w → Rel E st' a w
theorem Fit.refl (st : St) : Fit st st := fun _ _ _ h => h
theorem Fit.trans {a b c : St} (h : Fit a b) (k : Fit b c) : Fit a c := fun E x w hr => k E x w (h E x w hr)
theorem AW.fit (h : Fit st st') (k : AW P n x st' Q) : AW P n x st Q := fun c hc E a w hP hn hR => k c hc E a w hP hn (h E a w hR)
theorem AW.mono (h : AW P n x st Q) (hq : ∀ e s, Q e s → Q' e s) : AW P n x st Q' := fun c hc E a w hP hn hR =>
  wp_mono (h c hc E a w hP hn hR) fun e a' w' ⟨e', h1, s, h2, h3⟩ => ⟨e', h1, s, hq _ _ h2, h3⟩
theorem AW.skip (h : Q .normal st) : AW P n .skip st Q := fun c hc E a w hP hn hR => by
  rw [inv_skip hc]; exact wp_skip ⟨.normal, rfl, st, h, hR⟩
theorem AW.ret (h : Q .ret st) : AW P n .ret st Q := fun c hc E a w hP hn hR => by
  rw [inv_ret hc]; exact wp_ret ⟨.ret, rfl, st, h, hR⟩
theorem AW.exit {id : Nat} (h : Q (.exit id) st) : AW P n (.exit id) st Q := fun c hc E a w hP hn hR => by
  rw [inv_exit hc]; exact wp_exit ⟨.exit _, rfl, st, h, hR⟩
/-- What follows. -/
def thenQ (K : St → Prop) (Q : AE → St → Prop) : AE → St → Prop
  | .normal, s => K s
  | e, s => Q e s
theorem AW.seq (h : AW P n x st (thenQ (fun s => AW P n y s Q) Q)) : AW P n (.seq x y) st Q := fun c hc E a w hP hn hR => by
  obtain ⟨c1, c2, rfl, h1, h2⟩ := inv_seq hc
  refine wp_seq (wp_mono (h _ h1 E a w hP hn hR) ?_)
  rintro e a' w' ⟨e', he, s, hq, hR'⟩
  cases e <;> simp only [AE.of, reduceCtorEq] at he <;> injection he with he <;> subst he
  · exact hq _ h2 E a' w' hP hn hR'
  · exact ⟨_, rfl, s, hq, hR'⟩
  · exact ⟨_, rfl, s, hq, hR'⟩
theorem AW.cond {cx : AOpr} (ho : st.ok cx) (hb : isBool (st.val cx) = true) (h1 : boolOf (st.val cx) = true → AW P n x st Q) (h2 : boolOf (st.val cx) = false → AW P n y st Q) : AW P n (.cond cx x y) st Q := fun c hc E a w hP hn hR => by
  obtain ⟨z, c1, c2, rfl, hx, hc1, hc2⟩ := inv_cond hc
  obtain ⟨pl, fp, hR'⟩ := hR
  obtain ⟨b, e1, e2⟩ := inv_isBool (opr_sound hR' hx ho) hb
  refine wp_cond_split e2 (fun hb => ?_) (fun hb => ?_)
  · exact h1 (by rw [e1, hb]; rfl) _ hc1 E a w hP hn ⟨pl, fp, hR'⟩
  · exact h2 (by rw [e1, hb]; rfl) _ hc2 E a w hP hn ⟨pl, fp, hR'⟩
def blockQ (id : Nat) (Q : AE → St → Prop) : AE → St → Prop
  | .exit id', s => if id' = id then Q .normal s else Q (.exit id') s
  | e, s => Q e s
theorem AW.block {id : Nat} (h : AW P n x st (blockQ id Q)) : AW P n (.block id x) st Q := fun c hc E a w hP hn hR => by
  obtain ⟨c, rfl, hc2⟩ := inv_block hc
  refine wp_block (wp_mono (h _ hc2 E a w hP hn hR) ?_)
  rintro e a' w' ⟨e', he, s, hq, hR'⟩
  cases e <;> simp only [AE.of, reduceCtorEq] at he <;> injection he with he <;> subst he
  · exact ⟨_, rfl, s, hq, hR'⟩
  · simp only [Exit.inBlock]
    simp only [blockQ] at hq
    split
    · rename_i he; rw [if_pos he] at hq; exact ⟨_, rfl, s, hq, hR'⟩
    · rename_i he; rw [if_neg he] at hq; exact ⟨_, rfl, s, hq, hR'⟩
  · exact ⟨_, rfl, s, hq, hR'⟩
/-- A loop: its states by a parameter, of which something falls. -/
theorem AW.loop {γ : Type} (I : γ → Prop) (S : γ → St) (μ : γ → Nat) (g0 : γ) (h0 : I g0) (hs : Fit st (S g0))
    (h : ∀ g, I g → AW P n x (S g) (thenQ (fun s => ∃ g', I g' ∧ μ g' < μ g ∧ Fit s (S g')) Q)) : AW P n (.loop x) st Q := fun c hc E a w hP hn hR => by
  obtain ⟨c, rfl, hc⟩ := inv_loop hc
  have hR0 := hs E a w hR
  intro b k cs
  have key : ∀ (m : Nat) (g : γ) (a : Act) (w : World), μ g = m → I g → Rel E (S g) a w → ∃ e a' w', postOf E Q e a' w' ∧ Arrives P (lone (b.at a (.code c :: .inLoop c :: k)) cs w) b k cs e a' w' := by
    intro m
    induction m using Nat.strongRecOn with
    | _ m ih =>
      intro g a w hm hI hR
      obtain ⟨e, a₁, w₁, ⟨e', he, s, hq, hR'⟩, harr⟩ := h g hI c hc E a w hP hn hR b (.inLoop c :: k) cs
      cases e <;> simp only [AE.of, reduceCtorEq] at he <;> injection he with he <;> subst he
      · obtain ⟨g', hI', hlt, hfit⟩ := hq
        obtain ⟨e₂, a₂, w₂, hq₂, harr₂⟩ := ih (μ g') (hm ▸ hlt) g' a₁ w₁ rfl hI' (hfit E a₁ w₁ hR')
        exact ⟨e₂, a₂, w₂, hq₂, .of_steps (Steps.trans harr (.one step_inLoop)) harr₂⟩
      · exact ⟨_, a₁, w₁, ⟨_, rfl, s, hq, hR'⟩, .pass (x := .inLoop c) rfl (fun _ _ => .inl (by simp)) harr⟩
      · exact ⟨_, a₁, w₁, ⟨_, rfl, s, hq, hR'⟩, .pass (x := .inLoop c) rfl (fun _ _ => .inl (by simp)) harr⟩
  obtain ⟨e, a', w', hq, harr⟩ := key _ g0 a w rfl h0 hR0
  exact ⟨e, a', w', hq, .of_steps (.one step_loop) harr⟩
theorem AW.reg {is : List AI} (h : evIs P is st (Q .normal)) : AW P n (.reg is) st Q := fun c hc E a w hP hn hR => by
  obtain ⟨id, ops, rfl, hc⟩ := inv_reg hc
  subst hP hn
  exact region_sound hc hR h fun s a' w' h1 h2 => ⟨_, rfl, s, h1, h2⟩
theorem AW.draw {is : List AI} {ws : List (Nat × List Nat)} {t : Sch} (h : evT P is ws t st (Q .normal)) : AW P n (.draw is ws t) st Q := fun c hc E a w hP hn hR => by
  obtain ⟨id, ops, rfl, h1, h2, h3, h4⟩ := inv_draw hc
  subst hP hn
  exact draw_sound h1 h2 h3 h4 hR h fun s a' w' h1 h2 => ⟨_, rfl, s, h1, h2⟩
end
end Go.Amb

set_option linter.unusedSimpArgs false
set_option linter.unusedVariables false
namespace Go.Amb
open Go Go.RowKit

inductive ARes where
  | tmp (t : Nat)
  | cell (t n : Nat) (agg : Bool)
def chkR (P : Program) : ResultVar → ARes → Bool
  | .tmp t, .tmp t' => t == t'
  | .cell a ty, .cell t n ag => a == t && szIs P ty n && aggIs P ty ag
  | _, _ => false
def chkRs (P : Program) : List ResultVar → List ARes → Bool
  | [], [] => true
  | x :: xs, y :: ys => chkR P x y && chkRs P xs ys
  | _, _ => false
def ARes.op : ARes → AOp
  | .tmp t => .mov (.t t)
  | .cell t n ag => .load n ag (.t t)

/-- How a value goes back to the caller, by cells. -/
def R1 (h : Nat → Option Blk) (v r : AV) : Prop :=
  match v with
  | .sl .ext [] => (match r with | .sl _ [] => True | _ => False)
  | .sl .ext xs => okAs noF noF xs ∧ r = .sl .fro (xs.map clC)
  | .sl .fro xs => r = .sl .fro xs
  | .ifc t x => okA noF noF x ∧ r = .ifc t (clC x)
  | .fn f cs => okAs noF noF cs ∧ r = .fn f (cs.map clC)
  | v => closeOk h v ∧ r = closeV h v
def R1s (h : Nat → Option Blk) : List AV → List AV → Prop
  | [], [] => True
  | v :: vs, r :: rs => R1 h v r ∧ R1s h vs rs
  | _, _ => False
def R2 (h : Nat → Option Blk) (v r : AV) : Prop :=
  match v with
  | .agg cs => (match r with | .agg rs => R1s h cs rs | _ => False)
  | v => R1 h v r
def R2s (h : Nat → Option Blk) : List AV → List AV → Prop
  | [], [] => True
  | v :: vs, r :: rs => R2 h v r ∧ R2s h vs rs
  | _, _ => False
def resV (s : St) (rs : List ARes) : List AV := rs.map fun r => vop s 0 r.op
def resP (s : St) : List ARes → Prop
  | [] => True
  | r :: rs => pop s 0 r.op ∧ resP s rs
def resOk (s : St) (rs : List ARes) (r : AV) : Prop :=
  resP s rs ∧ (usedE (resV s rs)).Nodup ∧
    match resV s rs with
    | [v] => R2 s.heap v r
    | vs => (match r with | .tup rs' => R2s s.heap vs rs' | _ => False)
def retQ (rs : List ARes) (Q : AV → Prop) : AE → St → Prop
  | .exit _, _ => False
  | _, s => ∃ r, Q r ∧ resOk s rs r
def argT : Nat → List AV → List (Nat × AV)
  | _, [] => []
  | i, v :: vs => (i, v) :: argT (i + 1) vs

section
variable {E : Env} {st : St} {a : Act} {w w' : World} {pl pl' : Pls} {fp : Nat → List Nat}


theorem closeR1 (hR : RelW E st a w pl fp) {c r : AV} {u : Value} (hv : Vals w (Own E st fp) E.w0.heap.size pl [c] [u] []) (hc : R1 st.heap c r) :
    ∃ f, Vals w (Own E st fp) E.w0.heap.size noPl [r] [u] f ∧ f.Nodup ∧ ∀ b ∈ f, ∃ r ∈ usedV c, (st.heap r).isSome = true ∧ b ∈ fp r := by
  have frozen : okA noF noF c → ∃ f, Vals w (Own E st fp) E.w0.heap.size noPl [clC c] [u] f ∧ f.Nodup ∧ ∀ b ∈ f, ∃ r ∈ usedV c, (st.heap r).isSome = true ∧ b ∈ fp r := by
    intro hok
    have := map_vals (fh := nilF) (fq := nilF) (oh := noF) (oq := noF) (O' := Own E st fp) (B' := E.w0.heap.size) nilF_one nilF_one (fun _ _ _ _ h => h.elim) (fun _ _ _ _ h => h.elim) (fun _ _ h => h) hv (.inl ⟨rfl, ⟨hok, trivial⟩⟩) (by simp)
    exact ⟨[], by simpa [mapAs, clC] using this, by simp, by simp⟩
  unfold R1 at hc
  split at hc
  · split at hc
    · rename_i K
      refine ⟨[], ?_, by simp, by simp⟩
      cases hv with
      | sle hk hc0 t =>
        have := hc0 rfl
        subst this
        cases K with
        | own sz => exact .owe .nil
        | _ => exact .sle rfl (fun _ => rfl) .nil
      | slf hk hx _ _ _ _ _ _ _ _ _ => exact absurd rfl hx
      | slx hx _ _ _ _ _ _ _ _ => exact absurd rfl hx
    · exact hc.elim
  · obtain ⟨h1, rfl⟩ := hc
    have := frozen h1
    simpa [clC, mapA, mapAs_eq] using this
  · subst hc
    obtain ⟨f, h1, h2, h3⟩ := close1 hR hv (c := .sl .fro _) trivial
    exact ⟨f, by simpa [closeV] using h1, h2, h3⟩
  · obtain ⟨h1, rfl⟩ := hc
    have := frozen h1
    simpa [clC, mapA] using this
  · obtain ⟨h1, rfl⟩ := hc
    have := frozen h1
    simpa [clC, mapA, mapAs_eq] using this
  · obtain ⟨h1, rfl⟩ := hc
    exact close1 hR hv h1

theorem closeR1s (hR : RelW E st a w pl fp) : ∀ (cs rs : List AV) (us : List Value), Vals w (Own E st fp) E.w0.heap.size pl cs us [] → R1s st.heap cs rs → (cs.flatMap usedV).Nodup →
    ∃ f, Vals w (Own E st fp) E.w0.heap.size noPl rs us f ∧ f.Nodup ∧ ∀ b ∈ f, ∃ r ∈ cs.flatMap usedV, (st.heap r).isSome = true ∧ b ∈ fp r
  | [], [], us, hv, _, _ => by cases hv; exact ⟨[], .nil, by simp, by simp⟩
  | c :: cs, r :: rs, us, hv, hc, hn => by
    obtain ⟨u, us', rfl, h1, h2⟩ := hv.uncons0
    simp only [List.flatMap_cons] at hn
    obtain ⟨hn1, hn2, hn3⟩ := List.nodup_append.1 hn
    obtain ⟨f1, v1, d1, m1⟩ := closeR1 hR h1 hc.1
    obtain ⟨f2, v2, d2, m2⟩ := closeR1s hR cs rs us' h2 hc.2 hn2
    refine ⟨f1 ++ f2, v1.cons v2, ?_, ?_⟩
    · rw [List.nodup_append]
      refine ⟨d1, d2, fun b hb b' hb' e => ?_⟩
      subst e
      obtain ⟨r, hr, hl, hbr⟩ := m1 b hb
      obtain ⟨r', hr', hl', hbr'⟩ := m2 b hb'
      exact hR.disj r r' b hl hl' (hn3 r hr r' hr') hbr hbr'
    · intro b hb
      simp only [List.flatMap_cons, List.mem_append]
      rcases List.mem_append.1 hb with hb | hb
      · obtain ⟨r, hr, h⟩ := m1 b hb
        exact ⟨r, .inl hr, h⟩
      · obtain ⟨r, hr, h⟩ := m2 b hb
        exact ⟨r, .inr hr, h⟩
  | [], _ :: _, _, _, h, _ => h.elim
  | _ :: _, [], _, _, h, _ => h.elim

theorem R1_one {h : Nat → Option Blk} {v r : AV} (hv : v.one = true) (hr : R1 h v r) : r.one = true := by
  unfold R1 at hr
  split at hr
  · split at hr
    · rfl
    · exact hr.elim
  · rw [hr.2]; rfl
  · rw [hr]; rfl
  · rw [hr.2]; rfl
  · rw [hr.2]; rfl
  · obtain ⟨hk, rfl⟩ := hr
    cases v <;> simp only [closeOk] at hk <;> first | rfl | exact hk.elim | skip
    · rename_i K xs _ _ _ _ _
      cases K <;> simp only [closeOk] at hk <;> first | rfl | exact hk.elim | skip
      subst hk
      rfl
    · rename_i r off len _ _ _ _ _
      cases hb : h r with
      | none => rw [hb] at hk; exact hk.elim
      | some b => simp [closeV, hb, AV.one]

theorem R1s_one {h : Nat → Option Blk} : ∀ (vs rs : List AV), (∀ v ∈ vs, v.one = true) → R1s h vs rs → ∀ r ∈ rs, r.one = true
  | [], [], _, _, r, hr => by simp at hr
  | v :: vs, r :: rs, hv, hr, x, hx => by
    rcases List.mem_cons.1 hx with rfl | hx
    · exact R1_one (hv v (by simp)) hr.1
    · exact R1s_one vs rs (fun v h => hv v (by simp [h])) hr.2 x hx
  | [], _ :: _, _, h, _, _ => h.elim
  | _ :: _, [], _, h, _, _ => h.elim

theorem closeR2 (hR : RelW E st a w pl fp) {c r : AV} {u : Value} (hv : Vals w (Own E st fp) E.w0.heap.size pl [c] [u] []) (hc : R2 st.heap c r) (hn : ((cellsOf c).flatMap usedV).Nodup) :
    ∃ f, Vals w (Own E st fp) E.w0.heap.size noPl [r] [u] f ∧ f.Nodup ∧ ∀ b ∈ f, ∃ r ∈ (cellsOf c).flatMap usedV, (st.heap r).isSome = true ∧ b ∈ fp r := by
  unfold R2 at hc
  split at hc
  · rename_i cs
    split at hc
    · rename_i rs
      obtain ⟨us, rfl, h2, h1⟩ := inv_agg hv
      obtain ⟨f, h3, h4, h5⟩ := closeR1s hR cs rs us h2 hc hn
      refine ⟨f, ?_, h4, h5⟩
      have := Vals.agg (R1s_one cs rs h1 hc) h3 .nil
      simpa using this
    · exact hc.elim
  · rename_i hna
    obtain ⟨f, h1, h2, h3⟩ := closeR1 hR hv hc
    refine ⟨f, h1, h2, fun b hb => ?_⟩
    obtain ⟨r, hr, h⟩ := h3 b hb
    refine ⟨r, ?_, h⟩
    cases c with
    | agg cs => exact absurd rfl (hna cs)
    | _ => simpa [cellsOf] using hr

theorem closeR2s (hR : RelW E st a w pl fp) : ∀ (cs rs : List AV) (us : List Value), Vals w (Own E st fp) E.w0.heap.size pl cs us [] → R2s st.heap cs rs → (usedE cs).Nodup →
    ∃ f, Vals w (Own E st fp) E.w0.heap.size noPl rs us f ∧ f.Nodup ∧ ∀ b ∈ f, ∃ r ∈ usedE cs, (st.heap r).isSome = true ∧ b ∈ fp r
  | [], [], us, hv, _, _ => by cases hv; exact ⟨[], .nil, by simp, by simp⟩
  | c :: cs, r :: rs, us, hv, hc, hn => by
    obtain ⟨u, us', rfl, h1, h2⟩ := hv.uncons0
    simp only [usedE, flat_cons, List.flatMap_append] at hn
    obtain ⟨hn1, hn2, hn3⟩ := List.nodup_append.1 hn
    obtain ⟨f1, v1, d1, m1⟩ := closeR2 hR h1 hc.1 hn1
    obtain ⟨f2, v2, d2, m2⟩ := closeR2s hR cs rs us' h2 hc.2 hn2
    refine ⟨f1 ++ f2, v1.cons v2, ?_, ?_⟩
    · rw [List.nodup_append]
      refine ⟨d1, d2, fun b hb b' hb' e => ?_⟩
      subst e
      obtain ⟨r, hr, hl, hbr⟩ := m1 b hb
      obtain ⟨r', hr', hl', hbr'⟩ := m2 b hb'
      exact hR.disj r r' b hl hl' (hn3 r hr r' hr') hbr hbr'
    · intro b hb
      simp only [usedE, flat_cons, List.flatMap_append, List.mem_append]
      rcases List.mem_append.1 hb with hb | hb
      · obtain ⟨r, hr, h⟩ := m1 b hb
        exact ⟨r, .inl hr, h⟩
      · obtain ⟨r, hr, h⟩ := m2 b hb
        exact ⟨r, .inr hr, h⟩
  | [], _ :: _, _, _, h, _ => h.elim
  | _ :: _, [], _, _, h, _ => h.elim

def res1F (a : Act) : ResultVar → Sem Value
  | .tmp t => pure (a.tmps.getD t undef)
  | .cell b t => do loadVar t (← asAddr (a.tmps.getD b undef))
theorem res1_run (hR : RelW E st a w pl fp) {x : ResultVar} {r : ARes} (hc : chkR E.P x r = true) (hp : pop st 0 r.op) :
    ∃ u, (res1F a x).run E.P w = .ok u w ∧ Vals w (Own E st fp) E.w0.heap.size pl [vop st 0 r.op] [u] [] := by
  cases x with
  | tmp t =>
    cases r <;> simp [chkR] at hc
    subst hc
    exact ⟨_, rfl, opr_sound hR (x := .tmp t) (y := .t t) (by simp [chkX]) hp⟩
  | cell b t =>
    cases r <;> simp only [chkR, Bool.and_eq_true, beq_iff_eq] at hc
    · cases hc
    · rename_i t' n ag
      obtain ⟨⟨rfl, h1⟩, h2⟩ := hc
      obtain ⟨u, hr, hv⟩ := g_load (k := 0) (o := { (default : Oper) with op := .load t (.tmp b) }) hR rfl (x' := .t b) (by simp [chkX]) h1 h2 hp
      refine ⟨u, ?_, hv⟩
      have hea : a.eval (.tmp b) = a.tmps.getD b undef := rfl
      simp only [execOp, Instr.loadAt, hea] at hr
      revert hr
      show _ → (do loadVar t (← asAddr (a.tmps.getD b undef)) : Sem Value).run E.P w = _
      generalize a.tmps.getD b undef = A
      intro hr
      cases A with
      | pointer p =>
        cases p with
        | none => simp [Instr.sureAddr] at hr
        | some p =>
          simp only [asAddr, Instr.sureAddr, Sem.run_bind, Sem.run_pure, Result.andThen_ok] at hr ⊢
          cases hl : (loadVar t p).run E.P w with
          | ok x w1 => rw [hl] at hr; simp at hr; rw [hr.1, hr.2]
          | halt x w1 => rw [hl] at hr; simp at hr
      | _ => simp [Instr.sureAddr] at hr

theorem res_run (hR : RelW E st a w pl fp) : ∀ (xs : List ResultVar) (rs : List ARes), chkRs E.P xs rs = true → resP st rs →
    ∃ us, (xs.mapM (res1F a)).run E.P w = .ok us w ∧ Vals w (Own E st fp) E.w0.heap.size pl (resV st rs) us []
  | [], [], _, _ => ⟨[], by simp, .nil⟩
  | x :: xs, r :: rs, hc, hp => by
    simp only [chkRs, Bool.and_eq_true] at hc
    obtain ⟨u, h1, h2⟩ := res1_run hR hc.1 hp.1
    obtain ⟨us, h3, h4⟩ := res_run hR xs rs hc.2 hp.2
    refine ⟨u :: us, ?_, h2.cons h4⟩
    rw [List.mapM_cons]
    simp only [Sem.run_bind, h1, Result.andThen_ok, h3, Sem.run_pure]
  | [], _ :: _, h, _ => by simp [chkRs] at h
  | _ :: _, [], h, _ => by simp [chkRs] at h

theorem results_run (hR : RelW E st a w pl fp) {fn : Func} {rs : List ARes} {r : AV} (hc : chkRs E.P fn.results.toList rs = true) (hr : resOk st rs r) :
    ∃ v f, (results fn a.tmps).run E.P w = .ok v w ∧ Vals w (Own E st fp) E.w0.heap.size noPl [r] [v] f ∧ f.Nodup ∧ ∀ b ∈ f, ∃ r, (st.heap r).isSome = true ∧ b ∈ fp r := by
  obtain ⟨hp, hn, hm⟩ := hr
  obtain ⟨us, h1, h2⟩ := res_run hR _ _ hc hp
  have hrun : ∀ v, (if h : us.toArray.size = 1 then us.toArray[0] else .tuple us.toArray) = v → (results fn a.tmps).run E.P w = .ok v w := by
    intro v hv
    show ((fn.results.mapM (res1F a)) >>= fun vs => pure (if h : vs.size = 1 then vs[0] else .tuple vs)).run E.P w = _
    rw [Array.mapM_eq_mapM_toList]
    simp [h1]
    simpa using hv
  split at hm
  · rename_i v e
    rw [e] at h2 hn
    obtain ⟨u, us', hus, h3, h4⟩ := h2.uncons0
    cases h4
    subst hus
    obtain ⟨f, h5, h6, h7⟩ := closeR2 hR h3 hm (by simpa [usedE, flat] using hn)
    exact ⟨u, f, hrun u (by simp), h5, h6, fun b hb => let ⟨r, _, h⟩ := h7 b hb; ⟨r, h⟩⟩
  · rename_i hne
    split at hm
    · rename_i rs'
      obtain ⟨f, h5, h6, h7⟩ := closeR2s hR _ _ _ h2 hm hn
      refine ⟨.tuple us.toArray, f, hrun _ ?_, ?_, h6, fun b hb => let ⟨r, _, h⟩ := h7 b hb; ⟨r, h⟩⟩
      · have hl := h2.length
        rw [dif_neg]
        simp only [List.size_toArray, hl]
        intro h
        obtain ⟨v, e⟩ := List.length_eq_one_iff.1 h
        exact hne v e
      · have := Vals.tup h5 .nil
        simpa using this
    · exact hm.elim
end
end Go.Amb

set_option linter.unusedSimpArgs false
set_option linter.unusedVariables false
namespace Go.Amb
open Go Go.RowKit

/-- One cell told otherwise. -/
def conv (emp : Nat → Prop) (v v' : AV) : Prop :=
  v' = v ∨ (v = .sl .ext [] ∧ match v' with | .hdr r 0 0 => emp r | .sl _ [] => True | _ => False)
def convs (emp : Nat → Prop) : List AV → List AV → Prop
  | [], [] => True
  | v :: vs, v' :: vs' => conv emp v v' ∧ convs emp vs vs'
  | _, _ => False
def conv2 (emp : Nat → Prop) (v v' : AV) : Prop :=
  match v, v' with
  | .agg cs, .agg cs' => convs emp cs cs'
  | v, v' => conv emp v v'
def conv2s (emp : Nat → Prop) : List AV → List AV → Prop
  | [], [] => True
  | v :: vs, v' :: vs' => conv2 emp v v' ∧ conv2s emp vs vs'
  | _, _ => False

section
variable {emp : Nat → Prop}
theorem convs_refl : ∀ vs, convs emp vs vs
  | [] => trivial
  | v :: vs => ⟨.inl rfl, convs_refl vs⟩
theorem conv_one {v v' : AV} (h : conv emp v v') : v'.one = v.one := by
  rcases h with rfl | ⟨rfl, h⟩
  · rfl
  · split at h
    · rfl
    · rfl
    · exact h.elim
theorem convs_length : ∀ (vs vs' : List AV), convs emp vs vs' → vs'.length = vs.length
  | [], [], _ => rfl
  | _ :: vs, _ :: vs', h => by simp [convs_length vs vs' h.2]
  | [], _ :: _, h => h.elim
  | _ :: _, [], h => h.elim
theorem convs_one : ∀ (vs vs' : List AV), convs emp vs vs' → (∀ v ∈ vs, v.one = true) → ∀ v ∈ vs', v.one = true
  | [], [], _, _, v, hv => by simp at hv
  | x :: vs, y :: vs', h, h1, v, hv => by
    rcases List.mem_cons.1 hv with rfl | hv
    · rw [conv_one h.1]; exact h1 x (by simp)
    · exact convs_one vs vs' h.2 (fun z hz => h1 z (by simp [hz])) v hv
  | [], _ :: _, h, _, _, _ => h.elim
  | _ :: _, [], h, _, _, _ => h.elim
theorem convs_append : ∀ {a a' b b' : List AV}, convs emp a a' → convs emp b b' → convs emp (a ++ b) (a' ++ b')
  | [], [], _, _, _, h => h
  | _ :: _, _ :: _, _, _, h1, h => ⟨h1.1, convs_append h1.2 h⟩
  | [], _ :: _, _, _, h, _ => h.elim
  | _ :: _, [], _, _, h, _ => h.elim
theorem conv2_cells {v v' : AV} (h : conv2 emp v v') : convs emp (cellsOf v) (cellsOf v') := by
  unfold conv2 at h
  split at h
  · exact h
  · rename_i hn
    rcases h with rfl | ⟨rfl, h⟩
    · exact convs_refl _
    · split at h
      · exact ⟨.inr ⟨rfl, h⟩, trivial⟩
      · exact ⟨.inr ⟨rfl, trivial⟩, trivial⟩
      · exact h.elim
theorem conv2s_flat : ∀ (vs vs' : List AV), conv2s emp vs vs' → convs emp (flat vs) (flat vs')
  | [], [], _ => trivial
  | v :: vs, v' :: vs', h => by rw [flat_cons, flat_cons]; exact convs_append (conv2_cells h.1) (conv2s_flat vs vs' h.2)
  | [], _ :: _, h => h.elim
  | _ :: _, [], h => h.elim
theorem conv2s_length : ∀ (vs vs' : List AV), conv2s emp vs vs' → vs'.length = vs.length
  | [], [], _ => rfl
  | _ :: vs, _ :: vs', h => by simp [conv2s_length vs vs' h.2]
  | [], _ :: _, h => h.elim
  | _ :: _, [], h => h.elim
theorem conv2s_unit {sz : Nat} : ∀ (vs vs' : List AV), conv2s emp vs vs' → (∀ v ∈ vs, (cellsOf v).length = sz) → ∀ v ∈ vs', (cellsOf v).length = sz
  | [], [], _, _, v, hv => by simp at hv
  | x :: vs, y :: vs', h, h1, v, hv => by
    rcases List.mem_cons.1 hv with rfl | hv
    · rw [convs_length _ _ (conv2_cells h.1)]; exact h1 x (by simp)
    · exact conv2s_unit vs vs' h.2 (fun z hz => h1 z (by simp [hz])) v hv
  | [], _ :: _, h, _, _, _ => h.elim
  | _ :: _, [], h, _, _, _ => h.elim

theorem conv_vals {w : World} {O O' : Nat → Prop} {B : Nat} {pl pl' : Pls} (hO : ∀ b, b < w.heap.size → ¬ O b → ¬ O' b) (hp : ∀ r p, pl r = some p → pl' r = some p) (he : ∀ r, emp r → ∃ j sz, pl' r = some ⟨none, j, sz, 0⟩)
    {v v' : AV} {u : Value} {fp : List Nat} (hv : Vals w O B pl [v] [u] fp) (h : conv emp v v') : Vals w O' B pl' [v'] [u] fp := by
  rcases h with rfl | ⟨rfl, h⟩
  · exact hv.shift (fun _ _ _ => rfl) (Nat.le_refl _) hO pl' hp
  · cases hv with
    | sle hk hc t =>
      have := hc rfl
      subst this
      cases t
      split at h
      · obtain ⟨j, sz, e⟩ := he _ h
        exact .hdre e .nil
      · rename_i K
        cases K with
        | own sz => exact .owe .nil
        | _ => exact .sle rfl (fun _ => rfl) .nil
      · exact h.elim
    | slf hk hx _ _ _ _ _ _ _ _ _ => exact absurd rfl hx
    | slx hx _ _ _ _ _ _ _ _ => exact absurd rfl hx
theorem convs_vals {w : World} {O O' : Nat → Prop} {B : Nat} {pl pl' : Pls} (hO : ∀ b, b < w.heap.size → ¬ O b → ¬ O' b) (hp : ∀ r p, pl r = some p → pl' r = some p) (he : ∀ r, emp r → ∃ j sz, pl' r = some ⟨none, j, sz, 0⟩) :
    ∀ (vs vs' : List AV) (us : List Value) (fp : List Nat), Vals w O B pl vs us fp → convs emp vs vs' → Vals w O' B pl' vs' us fp
  | [], [], us, fp, hv, _ => by cases hv; exact .nil
  | v :: vs, v' :: vs', us, fp, hv, h => by
    obtain ⟨u, us', f1, f2, rfl, rfl, h1, h2⟩ := hv.uncons
    exact (conv_vals hO hp he h1 h.1).cons (convs_vals hO hp he vs vs' us' f2 h2 h.2)
  | [], _ :: _, _, _, _, h => h.elim
  | _ :: _, [], _, _, _, h => h.elim
theorem conv2_vals {w : World} {O O' : Nat → Prop} {B : Nat} {pl pl' : Pls} (hO : ∀ b, b < w.heap.size → ¬ O b → ¬ O' b) (hp : ∀ r p, pl r = some p → pl' r = some p) (he : ∀ r, emp r → ∃ j sz, pl' r = some ⟨none, j, sz, 0⟩)
    {v v' : AV} {u : Value} (hv : Vals w O B pl [v] [u] []) (h : conv2 emp v v') : Vals w O' B pl' [v'] [u] [] := by
  unfold conv2 at h
  split at h
  · obtain ⟨us, rfl, h2, h1⟩ := inv_agg hv
    have := Vals.agg (convs_one _ _ h h1) (convs_vals hO hp he _ _ _ _ h2 h) .nil
    simpa using this
  · exact conv_vals hO hp he hv h
end

theorem mkT_mem {t : List (Nat × AV)} {d : Nat} (h : mkT t d ≠ .undef) : (d, mkT t d) ∈ t := by
  induction t with
  | nil => exact absurd rfl h
  | cons p t ih =>
    obtain ⟨e, v⟩ := p
    simp only [mkT, tupd] at h ⊢
    split
    · rename_i hd; subst hd; simp
    · rename_i hd; rw [if_neg hd] at h; exact List.mem_cons_of_mem _ (ih h)
theorem mkH_mem {t : List (Nat × Blk)} {r : Nat} {b : Blk} (h : mkH t r = some b) : (r, b) ∈ t := by
  induction t with
  | nil => cases h
  | cons p t ih =>
    obtain ⟨e, v⟩ := p
    simp only [mkH, hupd] at h
    split at h
    · rename_i hd; injection h with h; subst hd h; simp
    · exact List.mem_cons_of_mem _ (ih h)

/-- The empty roots that are new. -/
def newEmp (st : St) (h : List (Nat × Blk)) (r : Nat) : Prop := st.us r = false ∧ ∃ b, mkH h r = some b ∧ b.es = [] ∧ b.box = false ∧ 0 < b.sz
def heapFit (st : St) (h : List (Nat × Blk)) (n r : Nat) (b : Blk) : Prop :=
  r < n ∧ ((match st.heap r with | some b0 => b0.sz = b.sz ∧ b0.box = b.box ∧ (if b.box then conv2s (newEmp st h) b0.es b.es else b0.es = b.es) | none => False) ∨ (st.us r = false ∧ b.es = [] ∧ b.box = false ∧ 0 < b.sz))

theorem Fit.mk {st : St} (t : List (Nat × AV)) (h : List (Nat × Blk)) (n : Nat) (ht : ∀ p ∈ t, (st.tmp p.1).ok ∧ conv2 (newEmp st h) (st.tmp p.1).strip p.2) (hh : ∀ p ∈ h, heapFit st h n p.1 p.2) (hu : ∀ r, st.us r = true → r < n) : Fit st (mkS t h n) := by
  rintro E a w ⟨pl, fp, hR⟩
  classical
  let szOf : Nat → Nat := fun r => ((mkH h r).getD ⟨0, false, []⟩).sz
  let pl' : Pls := fun r => if newEmp st h r then some ⟨none, 0, szOf r, 0⟩ else pl r
  let fp' : Nat → List Nat := fun r => if (st.heap r).isSome then fp r else []
  have hempn : ∀ r, newEmp st h r → pl r = none := fun r he => hR.unused r he.1
  have hp : ∀ r p, pl r = some p → pl' r = some p := by
    intro r p hr
    have : ¬ newEmp st h r := fun he => by rw [hempn r he] at hr; cases hr
    simp only [pl', if_neg this]; exact hr
  have he : ∀ r, newEmp st h r → ∃ j sz, pl' r = some ⟨none, j, sz, 0⟩ := fun r he => ⟨0, szOf r, by simp only [pl', if_pos he]⟩
  have hlive : ∀ r b, mkH h r = some b → (∃ b0, st.heap r = some b0 ∧ b0.sz = b.sz ∧ b0.box = b.box ∧ (if b.box then conv2s (newEmp st h) b0.es b.es else b0.es = b.es)) ∨ (newEmp st h r ∧ st.heap r = none ∧ b.es = [] ∧ 0 < b.sz) := by
    intro r b hb
    rcases (hh (r, b) (mkH_mem hb)).2 with h1 | ⟨h1, h2, h3, h4⟩
    · cases hs : st.heap r with
      | none => simp only [hs] at h1
      | some b0 => simp only [hs] at h1; exact .inl ⟨b0, rfl, h1⟩
    · refine .inr ⟨⟨h1, b, hb, h2, h3, h4⟩, ?_, h2, h4⟩
      cases hs : st.heap r with
      | none => rfl
      | some b0 => have := hR.used r (by simp [hs]); rw [h1] at this; cases this
  have hlt : ∀ r b, mkH h r = some b → r < n := fun r b hb => (hh (r, b) (mkH_mem hb)).1
  have hfp : ∀ r b, mkH h r = some b → ∀ x ∈ fp' r, (st.heap r).isSome = true ∧ x ∈ fp r := by
    intro r b hb x hx
    by_cases hs : (st.heap r).isSome = true
    · simp only [fp', if_pos hs] at hx; exact ⟨hs, hx⟩
    · simp only [fp', if_neg hs] at hx; cases hx
  have hO : ∀ b, b < w.heap.size → ¬ Own E st fp b → ¬ Own E (mkS t h n) fp' b := by
    rintro b _ hn (hx | ⟨r, hr, hbr⟩)
    · exact hn (.inl hx)
    · obtain ⟨blk, hb⟩ := Option.isSome_iff_exists.1 hr
      exact hn (.inr ⟨r, hfp r blk hb b hbr⟩)
  refine ⟨pl', fp', ?_⟩
  exact
    { size := hR.size, defers := hR.defers
      plx := fun r hr => by
        have : ¬ newEmp st h r := fun he => by have := hR.usnb r hr; rw [he.1] at this; cases this
        simp only [pl', if_neg this]; exact hR.plx r hr
      unused := fun r hr => by
        have hr' : ¬ r < n := by simpa [mkS] using hr
        have hus : st.us r = false := by
          cases hx : st.us r with
          | false => rfl
          | true => exact absurd (hu r hx) hr'
        have : ¬ newEmp st h r := fun he => by obtain ⟨_, b, hb, _⟩ := he; exact hr' (hlt r b hb)
        simp only [pl', if_neg this]; exact hR.unused r hus
      used := fun r hr => by
        obtain ⟨b, hb⟩ := Option.isSome_iff_exists.1 hr
        simpa [mkS] using hlt r b hb
      usnb := fun r hr => by simpa [mkS] using hu r (hR.usnb r hr)
      roots := fun r blk hb => by
        rcases hlive r blk hb with ⟨b0, hs, h1, h2, h3⟩ | ⟨hemp, hs, h1, h2⟩
        · have hfr : fp' r = fp r := by simp only [fp', hs]; rfl
          rw [hfr]
          have hroot := hR.roots r b0 hs
          obtain ⟨bsz, bbox, bes⟩ := b0
          obtain ⟨csz, cbox, ces⟩ := blk
          simp only at h1 h2 h3
          subst h1 h2
          cases bbox with
          | false =>
            simp only [Bool.false_eq_true, if_false] at h3
            subst h3
            exact hroot.move (fun _ _ _ => rfl) (Nat.le_refl _) hO (Nat.le_refl _) hp
          | true =>
            simp only [if_true] at h3
            generalize hfr' : fp r = F at hroot ⊢
            cases hroot with
            | emp hh1 he1 hz =>
              simp only at he1
              subst he1
              have : ces = [] := List.length_eq_zero_iff.1 (conv2s_length _ _ h3)
              subst this
              exact .emp (hp _ _ hh1) rfl hz
            | blk hh1 hr hl hz hu1 ho1 hn hc ha =>
              refine .blk (hp _ _ hh1) hr hl hz (conv2s_unit _ _ h3 hu1) (convs_one _ _ (conv2s_flat _ _ h3) ho1) (by rw [conv2s_length _ _ h3]; exact hn) ?_ ha
              simp only [if_true] at hc ⊢
              exact convs_vals hO hp he _ _ _ _ hc (conv2s_flat _ _ h3)
        · have hfr : fp' r = [] := by simp only [fp', hs]; rfl
          rw [hfr]
          refine .emp (j := 0) ?_ h1 h2
          simp only [pl', if_pos hemp]
          have : szOf r = blk.sz := by
            have hb' : mkH h r = some blk := hb
            simp only [szOf, hb']; rfl
          rw [this]
      nodup := fun r hr => by
        by_cases hs : (st.heap r).isSome = true
        · simp only [fp', if_pos hs]; exact hR.nodup r hs
        · simp only [fp', if_neg hs]; exact List.nodup_nil
      own := fun r hr b hb => by
        obtain ⟨blk, hblk⟩ := Option.isSome_iff_exists.1 hr
        obtain ⟨h1, h2⟩ := hfp r blk hblk b hb
        exact hR.own r h1 b h2
      disj := fun r r' b hr hr' hne hb hb' => by
        obtain ⟨blk, hblk⟩ := Option.isSome_iff_exists.1 hr
        obtain ⟨blk', hblk'⟩ := Option.isSome_iff_exists.1 hr'
        obtain ⟨h1, h2⟩ := hfp r blk hblk b hb
        obtain ⟨h3, h4⟩ := hfp r' blk' hblk' b hb'
        exact hR.disj r r' b h1 h3 hne h2 h4
      xold := hR.xold, gold := hR.gold
      tmps := fun d hd => by
        have hm := ht _ (mkT_mem hd)
        have hne : st.tmp d ≠ .undef := by intro e; have := hm.1; simp only [e] at this; exact this
        obtain ⟨u, h1, h2⟩ := hR.tmps d hne
        exact ⟨u, h1, conv2_vals hO hp he (strip_vals h2 hm.1) hm.2⟩
      keeps := hR.keeps }

/-! ### a contract, of the walk -/
theorem mkT_arg : ∀ (args : List AV) (i d : Nat), mkT (argT i args) d ≠ .undef → i ≤ d ∧ args[d - i]? = some (mkT (argT i args) d)
  | [], i, d, h => absurd rfl h
  | v :: vs, i, d, h => by
    simp only [argT, mkT, tupd] at h ⊢
    split
    · rename_i hd; subst hd; simp
    · rename_i hd
      rw [if_neg hd] at h
      obtain ⟨h1, h2⟩ := mkT_arg vs (i + 1) d h
      refine ⟨by omega, ?_⟩
      have : d - i = (d - (i + 1)) + 1 := by omega
      rw [this, List.getElem?_cons_succ]
      exact h2

theorem acall_of {P : Program} {f : Nat} {fn : Func} {c : Code} {ac : ACode} {rs : List ARes} {args : List AV} {Q : AV → Prop} (hf : P.funcs[f]? = some fn) (hb : fn.body = some c) (hn : (fn.name != "runtime.NumGoroutine") = true)
    (hc : chkCode P fn.ntmps c ac = true) (hr : chkRs P fn.results.toList rs = true) (hlen : args.length ≤ fn.ntmps) (h : AW P fn.ntmps ac (mkS (argT 0 args) [] 0) (retQ rs Q)) : ACall P f args Q := by
  refine ⟨?_, fun w X us hX hv => ?_⟩
  · unfold bodied
    rw [hf]
    simp only [hb, Option.isSome_some, Bool.true_and]
    exact hn
  · refine calls_of_wp hf hb ?_
    let E : Env := ⟨P, fn.ntmps, w, X, fun _ => False, noPl, 0⟩
    have hul : us.length = args.length := hv.length
    have hOwn : ∀ b, ¬ X b → ¬ Own E (mkS (argT 0 args) [] 0) (fun _ => []) b := by
      rintro b hn (hx | ⟨r, hr, hb⟩)
      · exact hn hx
      · cases hb
    have hR : Rel E (mkS (argT 0 args) [] 0) { tmps := us.toArray ++ Array.replicate (fn.ntmps - us.toArray.size) undef, defers := [] } w := by
      refine ⟨noPl, fun _ => [], ?_⟩
      exact
        { size := by simp [E]; omega
          defers := rfl
          plx := fun r hr => rfl
          unused := fun r _ => rfl
          used := fun r hr => by cases hr
          usnb := fun r hr => by cases hr
          roots := fun r blk hb => by cases hb
          nodup := fun r hr => by cases hr
          own := fun r hr => by cases hr
          disj := fun r r' b hr => by cases hr
          xold := fun b hb => hX b hb, gold := fun b hb => hb.elim
          tmps := fun d hd => by
            obtain ⟨_, h1⟩ := mkT_arg args 0 d hd
            obtain ⟨u, h2, h3⟩ := hv.get0 _ _ h1
            refine ⟨u, ?_, h3.shift (fun _ _ _ => rfl) (Nat.le_refl _) (fun b _ hn => hOwn b hn) noPl (fun _ _ h => h)⟩
            simp only [Nat.sub_zero] at h2
            have hlt : d < us.length := (List.getElem?_eq_some_iff.1 h2).1
            rw [Array.getElem?_append_left (by simpa using hlt)]
            simpa using h2
          keeps := ⟨rfl, rfl, rfl, Nat.le_refl _, fun _ _ _ => rfl⟩ }
    refine wp_mono (h c hc E _ w rfl rfl hR) ?_
    rintro e a' w' ⟨e', he, s, hq, pl, fp, hR'⟩
    have fin : (∃ r, Q r ∧ resOk s rs r) → a'.defers = [] ∧ ∃ v, (results fn a'.tmps).run P w' = .ok v w' ∧ Back w X Q (.returned v) w' := by
      rintro ⟨r, hQ, hres⟩
      obtain ⟨v, f, h1, h2, h3, h4⟩ := results_run hR' hr hres
      refine ⟨hR'.defers, v, h1, r, f, hQ, ?_, h3, fun b hb => ?_, hR'.keeps⟩
      · refine h2.shift (fun _ _ _ => rfl) (Nat.le_refl _) (fun b _ hn => ?_) noPl (fun _ _ h => h)
        rintro (hx | hf)
        · exact hn (.inl hx)
        · exact hn (.inr (h4 b hf))
      · obtain ⟨r', hr', hb'⟩ := h4 b hb
        obtain ⟨h5, h6, _⟩ := hR'.own r' hr' b hb'
        exact ⟨h6.resolve_right (fun h => h), h5⟩
    cases e <;> simp only [AE.of, reduceCtorEq] at he <;> injection he with he <;> subst he
    · exact fin hq
    · exact hq.elim
    · exact fin hq
end Go.Amb

set_option linter.unusedVariables false
set_option linter.unusedSimpArgs false
namespace Go.Amb
open Go

section
variable {P : Program} {i : AI} {is : List AI} {t : List (Nat × AV)} {h : Nat → Option Blk} {n : Nat} {u : Nat → Bool} {K : St → Prop} {d : Nat} {v : AV}

/-- A quiet operation. -/
theorem evQ (hq : i.op.quiet = true) (hg : i.g = none) (hd : i.dst = some d) (hv : vop ⟨mkT t, h, n, u⟩ i.k i.op = v) (hp : pop ⟨mkT t, h, n, u⟩ i.k i.op) (hk : evIs P is ⟨mkT ((d, v) :: t), h, n, u⟩ K) :
    evIs P (i :: is) ⟨mkT t, h, n, u⟩ K := by
  refine .inl ?_
  show ev1 P i _ _
  rw [ev1_quiet hq]
  unfold ok1 val1
  rw [hg, hd]
  exact ⟨hp, by subst hv; exact hk⟩
/-- A quiet operation under a guard. -/
theorem evG {s : Nat} {b c : Bool} (hq : i.op.quiet = true) (hg : i.g = some (s, b)) (hd : i.dst = some d) (hc : gcond ⟨mkT t, h, n, u⟩ s b = c) (hv : vop ⟨mkT t, h, n, u⟩ i.k i.op = v)
    (hk : gok ⟨mkT t, h, n, u⟩ s) (hp : c = true → pop ⟨mkT t, h, n, u⟩ i.k i.op) (hr : evIs P is ⟨mkT ((d, .grd c v) :: t), h, n, u⟩ K) : evIs P (i :: is) ⟨mkT t, h, n, u⟩ K := by
  refine .inl ?_
  show ev1 P i _ _
  rw [ev1_quiet hq]
  unfold ok1 val1
  rw [hg, hd]
  subst hc hv
  exact ⟨⟨hk, hp⟩, hr⟩
/-- An operation under a guard that does not hold. -/
theorem evF {s : Nat} {b : Bool} (hg : i.g = some (s, b)) (hd : i.dst = some d) (hc : gcond ⟨mkT t, h, n, u⟩ s b = false) (hk : gok ⟨mkT t, h, n, u⟩ s) (hr : evIs P is ⟨mkT ((d, .grd false .undef) :: t), h, n, u⟩ K) :
    evIs P (i :: is) ⟨mkT t, h, n, u⟩ K := by
  refine .inr ?_
  unfold evSkip
  rw [hg, hd]
  exact ⟨hk, hc, hr⟩
/-- An operation under a guard that holds. -/
theorem evT1 {s : Nat} {b : Bool} (hg : i.g = some (s, b)) (hc : gcond ⟨mkT t, h, n, u⟩ s b = true) (hq : i.op.quiet = false) (hk : gok ⟨mkT t, h, n, u⟩ s) (hr : evIs P ({ i with g := none } :: is) ⟨mkT t, h, n, u⟩ K) :
    evIs P (i :: is) ⟨mkT t, h, n, u⟩ K := by
  refine .inl ?_
  show ev1 P i _ _
  unfold ev1
  rw [hg]
  refine ⟨hk, ?_⟩
  rw [if_neg (by simp [hq])]
  refine ⟨fun _ => ?_, fun hh => absurd (hc.symm.trans hh) (by simp)⟩
  exact hr.elim (fun h => h) (fun h => h.elim)
/-- A call that returns one value, which is frozen. -/
theorem evC {f : Nat} {args : List AOpr} {vs vs' : List AV} {r r' : AV} (hop : i.op = .call f args) (hg : i.g = none) (hd : i.dst = some d) (had : i.ad = false) (hvs : args.map (St.val ⟨mkT t, h, n, u⟩) = vs) (hvs' : vs.map (fzA h) = vs')
    (hA : ACall P f vs' (· = r)) (hr : clC r = r') (ho : ∀ x ∈ args, St.ok ⟨mkT t, h, n, u⟩ x) (hcl : okAs noF noF vs ∨ (okAs (okB h) (okQ h) vs ∧ sc r = true)) (hk : evIs P is ⟨mkT ((d, r') :: t), h, n, u⟩ K) :
    evIs P (i :: is) ⟨mkT t, h, n, u⟩ K := by
  refine .inl ?_
  show ev1 P i _ _
  unfold ev1
  rw [hg]
  show evOp P i _ _
  unfold evOp
  rw [hop]
  subst hvs hvs' hr
  refine ⟨ho, .inl ⟨(· = r), hA, ?_⟩⟩
  have hret : retK i ⟨mkT t, h, n, u⟩ (fun st' => evIs P is st' K) r := by
    unfold retK
    rw [had, if_neg (by simp), hd]
    exact hk
  rcases hcl with hcl | hcl
  · exact .inl ⟨hcl, fun x hx => hx ▸ hret⟩
  · exact .inr ⟨hcl.1, fun x hx => hx ▸ ⟨hcl.2, hret⟩⟩
theorem evCv {f : Nat} {x : AOpr} {caps : List AV} {args : List AOpr} {vs vs' : List AV} {r r' : AV} (hop : i.op = .callv x args) (hg : i.g = none) (hd : i.dst = some d) (had : i.ad = false) (hx : St.val ⟨mkT t, h, n, u⟩ x = .fn f caps) (hvs : args.map (St.val ⟨mkT t, h, n, u⟩) ++ caps = vs) (hvs' : vs.map (fzA h) = vs')
    (hA : ACall P f vs' (· = r)) (hr : clC r = r') (hox : St.ok ⟨mkT t, h, n, u⟩ x) (ho : ∀ x ∈ args, St.ok ⟨mkT t, h, n, u⟩ x) (hcl : okAs noF noF vs ∨ (okAs (okB h) (okQ h) vs ∧ sc r = true)) (hk : evIs P is ⟨mkT ((d, r') :: t), h, n, u⟩ K) :
    evIs P (i :: is) ⟨mkT t, h, n, u⟩ K := by
  refine .inl ?_
  show ev1 P i _ _
  unfold ev1
  rw [hg]
  show evOp P i _ _
  unfold evOp
  rw [hop]
  subst hvs hvs' hr
  refine ⟨hox, ho, ?_⟩
  simp only [hx]
  refine .inl ⟨(· = r), hA, ?_⟩
  have hret : retK i ⟨mkT t, h, n, u⟩ (fun st' => evIs P is st' K) r := by
    unfold retK
    rw [had, if_neg (by simp), hd]
    exact hk
  rcases hcl with hcl | hcl
  · exact .inl ⟨hcl, fun x hx => hx ▸ hret⟩
  · exact .inr ⟨hcl.1, fun x hx => hx ▸ ⟨hcl.2, hret⟩⟩
/-- A call whose result becomes a root. -/
theorem evCa {f sz R : Nat} {args : List AOpr} {vs vs' xs : List AV} (hop : i.op = .call f args) (hg : i.g = none) (hd : i.dst = some d) (had : i.ad = true) (hR : n + i.k = R) (hvs : args.map (St.val ⟨mkT t, h, n, u⟩) = vs) (hvs' : vs.map (fzA h) = vs')
    (hA : ACall P f vs' (· = .sl (.own sz) xs)) (ho : ∀ x ∈ args, St.ok ⟨mkT t, h, n, u⟩ x)
    (hcl : okAs noF noF vs ∨ (okAs (okB h) (okQ h) vs ∧ scs xs = true)) (hu : u R = false) (hz : 0 < sz) (hk : evIs P is ⟨mkT ((d, .hdr R 0 xs.length) :: t), hupd h R (some ⟨sz, false, xs⟩), n, uupd u R⟩ K) : evIs P (i :: is) ⟨mkT t, h, n, u⟩ K := by
  refine .inl ?_
  show ev1 P i _ _
  unfold ev1
  rw [hg]
  show evOp P i _ _
  unfold evOp
  rw [hop]
  subst hvs hvs' hR
  refine ⟨ho, .inl ⟨_, hA, ?_⟩⟩
  have hret : retK i ⟨mkT t, h, n, u⟩ (fun st' => evIs P is st' K) (.sl (.own sz) xs) := by
    unfold retK
    rw [had, if_pos rfl]
    refine ⟨hu, hz, ?_⟩
    rw [hd]
    exact hk
  rcases hcl with hcl | hcl
  · exact .inl ⟨hcl, fun x hx => hx ▸ hret⟩
  · exact .inr ⟨hcl.1, fun x hx => hx ▸ ⟨hcl.2, hret⟩⟩
/-- A slice made at a length. -/
theorem evZm {sz bytes : Nat} {ag : Bool} {z : List CV} {x : AOpr} {blk : Blk} {R : Nat} {y : AV} (hop : i.op = .mks sz bytes ag z x) (hg : i.g = none) (hd : i.dst = some d) (hR : n + i.k = R) (hb : rop ⟨mkT t, h, n, u⟩ i.op = some blk)
    (hv : vop ⟨mkT t, h, n, u⟩ i.k i.op = y) (hp : pop ⟨mkT t, h, n, u⟩ i.k i.op) (hk : evIs P is ⟨mkT ((d, y) :: t), hupd h R (some blk), n, uupd u R⟩ K) : evIs P (i :: is) ⟨mkT t, h, n, u⟩ K := by
  subst hR hv
  refine .inl ?_
  show ev1 P i _ _
  unfold ev1
  rw [hg]
  show evOp P i _ _
  revert hb hp hk
  unfold evOp
  rw [hop]
  intro hb hp hk
  refine ⟨hp, ?_⟩
  rw [hb, hd]
  exact hk
/-- The bytes of a string. -/
theorem evZb {x : AOpr} {y : AV} (hop : i.op = .s2b x) (hg : i.g = none) (hd : i.dst = some d)
    (hv : vop ⟨mkT t, h, n, u⟩ i.k i.op = y) (hp : pop ⟨mkT t, h, n, u⟩ i.k i.op) (hk : evIs P is ⟨mkT ((d, y) :: t), h, n, u⟩ K) : evIs P (i :: is) ⟨mkT t, h, n, u⟩ K := by
  subst hv
  refine .inl ?_
  show ev1 P i _ _
  unfold ev1
  rw [hg]
  show evOp P i _ _
  revert hp hk
  unfold evOp
  rw [hop]
  intro hp hk
  refine ⟨hp, ?_⟩
  rw [hd]
  exact hk
theorem evCpy {sz : Nat} {x y : AOpr} {X Y : AV} {m : Nat} {h' : Nat → Option Blk} (hop : i.op = .cpy sz x y) (hg : i.g = none) (hd : i.dst = some d) (hx : St.val ⟨mkT t, h, n, u⟩ x = X) (hy : St.val ⟨mkT t, h, n, u⟩ y = Y)
    (hm : cpyN ⟨mkT t, h, n, u⟩ X Y = m) (hh : (cpyS ⟨mkT t, h, n, u⟩ X Y).heap = h') (ox : St.ok ⟨mkT t, h, n, u⟩ x) (oy : St.ok ⟨mkT t, h, n, u⟩ y) (hp : cpyOk ⟨mkT t, h, n, u⟩ sz X Y)
    (hk : evIs P is ⟨mkT ((d, .int .i64 m) :: t), h', n, u⟩ K) : evIs P (i :: is) ⟨mkT t, h, n, u⟩ K := by
  refine .inl ?_
  show ev1 P i _ _
  unfold ev1
  rw [hg]
  show evOp P i _ _
  unfold evOp
  rw [hop]
  subst hx hy hh hm
  refine ⟨ox, oy, hp, ?_⟩
  rw [hd]
  have e : cpyS ⟨mkT t, h, n, u⟩ (St.val ⟨mkT t, h, n, u⟩ x) (St.val ⟨mkT t, h, n, u⟩ y) = ⟨mkT t, (cpyS ⟨mkT t, h, n, u⟩ (St.val ⟨mkT t, h, n, u⟩ x) (St.val ⟨mkT t, h, n, u⟩ y)).heap, n, u⟩ := by
    unfold cpyS
    split <;> rfl
  rw [e]
  exact hk
theorem evCpy0 {sz : Nat} {x y : AOpr} {X Y : AV} {h' : Nat → Option Blk} (hop : i.op = .cpy sz x y) (hg : i.g = none) (hd : i.dst = none) (hx : St.val ⟨mkT t, h, n, u⟩ x = X) (hy : St.val ⟨mkT t, h, n, u⟩ y = Y)
    (hh : (cpyS ⟨mkT t, h, n, u⟩ X Y).heap = h') (ox : St.ok ⟨mkT t, h, n, u⟩ x) (oy : St.ok ⟨mkT t, h, n, u⟩ y) (hp : cpyOk ⟨mkT t, h, n, u⟩ sz X Y)
    (hk : evIs P is ⟨mkT t, h', n, u⟩ K) : evIs P (i :: is) ⟨mkT t, h, n, u⟩ K := by
  refine .inl ?_
  show ev1 P i _ _
  unfold ev1
  rw [hg]
  show evOp P i _ _
  unfold evOp
  rw [hop]
  subst hx hy hh
  refine ⟨ox, oy, hp, ?_⟩
  rw [hd]
  have e : cpyS ⟨mkT t, h, n, u⟩ (St.val ⟨mkT t, h, n, u⟩ x) (St.val ⟨mkT t, h, n, u⟩ y) = ⟨mkT t, (cpyS ⟨mkT t, h, n, u⟩ (St.val ⟨mkT t, h, n, u⟩ x) (St.val ⟨mkT t, h, n, u⟩ y)).heap, n, u⟩ := by
    unfold cpyS
    split <;> rfl
  rw [e]
  exact hk
theorem evCap {sz : Nat} {x : AOpr} {X : AV} {V : Nat → AV} {h' : Nat → Nat → Option Blk} (hop : i.op = .cap sz x) (hg : i.g = none) (hd : i.dst = some d) (hx : St.val ⟨mkT t, h, n, u⟩ x = X) (ox : St.ok ⟨mkT t, h, n, u⟩ x) (hp : capOk ⟨mkT t, h, n, u⟩ sz X) (hh : ∀ q, (capS ⟨mkT t, h, n, u⟩ sz X q).heap = h' q) (hv : ∀ q, capV X q = V q)
    (hk : ∀ q : Nat, lenOf X ≤ q → evIs P is ⟨mkT ((d, V q) :: t), h' q, n, u⟩ K) : evIs P (i :: is) ⟨mkT t, h, n, u⟩ K := by
  refine .inl ?_
  show ev1 P i _ _
  unfold ev1
  rw [hg]
  show evOp P i _ _
  unfold evOp
  rw [hop]
  subst hx
  refine ⟨ox, hp, fun q hq => ?_⟩
  rw [hd]
  have e : capS ⟨mkT t, h, n, u⟩ sz (St.val ⟨mkT t, h, n, u⟩ x) q = ⟨mkT t, (capS ⟨mkT t, h, n, u⟩ sz (St.val ⟨mkT t, h, n, u⟩ x) q).heap, n, u⟩ := by
    unfold capS
    split <;> rfl
  rw [e, hh, hv]
  exact hk q hq
theorem evApz {sz bytes R e m : Nat} {ag : Bool} {z : List CV} {s x : AOpr} {S X Y : AV} {h' : Nat → Option Blk} (hop : i.op = .apz sz bytes ag z s x e) (hg : i.g = none) (hd : i.dst = some d) (hR : n + i.k = R)
    (hs : St.val ⟨mkT t, h, n, u⟩ s = S) (hx : St.val ⟨mkT t, h, n, u⟩ x = X) (hy : apzX ⟨mkT t, h, n, u⟩ ag z S X = Y) (hh : (appS ⟨mkT t, h, n, u⟩ i.k sz (.sl .ext []) Y).heap = h') (hm : lenOf Y = m)
    (os : St.ok ⟨mkT t, h, n, u⟩ s) (ox : St.ok ⟨mkT t, h, n, u⟩ x) (hp : apzOk ⟨mkT t, h, n, u⟩ i.k sz bytes ag z S X (mkT t e))
    (hk : evIs P is ⟨mkT ((d, .hdr R 0 m) :: t), h', n, uupd u R⟩ K) : evIs P (i :: is) ⟨mkT t, h, n, u⟩ K := by
  refine .inl ?_
  show ev1 P i _ _
  unfold ev1
  rw [hg]
  show evOp P i _ _
  unfold evOp
  rw [hop]
  subst hs hx hR
  refine ⟨os, ox, hp, ?_⟩
  rw [hy, hd]
  have hlen : (St.olds ⟨mkT t, h, n, u⟩ (.sl .ext [])).length + (St.news ⟨mkT t, h, n, u⟩ Y).length = m := by
    rw [← hm, ← hy]
    simp [St.olds, apzX, St.news, lenOf]
  have e1 : appV ⟨mkT t, h, n, u⟩ i.k (.sl .ext []) Y = .hdr (n + i.k) 0 m := by
    unfold appV
    rw [hlen]
  have e2 : appS ⟨mkT t, h, n, u⟩ i.k sz (.sl .ext []) Y = ⟨mkT t, h', n, uupd u (n + i.k)⟩ := by
    rw [← hh]
    rfl
  rw [e1, e2]
  exact hk
/-- New memory. -/
theorem evM {blk : Blk} {R : Nat} (hq : (match i.op with | .alloc .. | .box .. => true | _ => false) = true) (hg : i.g = none) (hd : i.dst = some d) (hR : n + i.k = R) (hb : rop ⟨mkT t, h, n, u⟩ i.op = some blk)
    (hp : pop ⟨mkT t, h, n, u⟩ i.k i.op) (hk : evIs P is ⟨mkT ((d, .ptr R 0 0) :: t), hupd h R (some blk), n, uupd u R⟩ K) : evIs P (i :: is) ⟨mkT t, h, n, u⟩ K := by
  subst hR
  refine .inl ?_
  show ev1 P i _ _
  unfold ev1
  rw [hg]
  show evOp P i _ _
  revert hb hp hq
  unfold evOp
  cases i.op <;> intro hq hb hp <;> first | (simp at hq; done) | skip
  · refine ⟨hp, ?_⟩
    rw [hb, hd]
    exact hk
  · refine ⟨hp, ?_⟩
    rw [hb, hd]
    exact hk
theorem evAp {sz bytes R : Nat} {s x : AOpr} {S X : AV} {h' : Nat → Option Blk} {m : Nat} (hop : i.op = .app sz bytes s x) (hg : i.g = none) (hd : i.dst = some d) (hR : n + i.k = R) (hs : St.val ⟨mkT t, h, n, u⟩ s = S) (hx : St.val ⟨mkT t, h, n, u⟩ x = X)
    (hh : (appS ⟨mkT t, h, n, u⟩ i.k sz S X).heap = h') (hm : (St.olds ⟨mkT t, h, n, u⟩ S).length + (St.news ⟨mkT t, h, n, u⟩ X).length = m)
    (os : St.ok ⟨mkT t, h, n, u⟩ s) (ox : St.ok ⟨mkT t, h, n, u⟩ x) (hp : appOk ⟨mkT t, h, n, u⟩ i.k sz bytes S X) (hk : evIs P is ⟨mkT ((d, .hdr R 0 m) :: t), h', n, uupd u R⟩ K) : evIs P (i :: is) ⟨mkT t, h, n, u⟩ K := by
  refine .inl ?_
  show ev1 P i _ _
  unfold ev1
  rw [hg]
  show evOp P i _ _
  unfold evOp
  rw [hop]
  subst hs hx hh hm hR
  refine ⟨os, ox, .inl ⟨hp, ?_⟩⟩
  rw [hd]
  exact hk
/-- append where there is room that is known. -/
theorem evAi {sz bytes : Nat} {s x : AOpr} {S X V : AV} {h' : Nat → Option Blk} (hop : i.op = .app sz bytes s x) (hg : i.g = none) (hd : i.dst = some d) (hs : St.val ⟨mkT t, h, n, u⟩ s = S) (hx : St.val ⟨mkT t, h, n, u⟩ x = X)
    (hh : (intoS ⟨mkT t, h, n, u⟩ S X).heap = h') (hm : intoV ⟨mkT t, h, n, u⟩ S X = V) (os : St.ok ⟨mkT t, h, n, u⟩ s) (ox : St.ok ⟨mkT t, h, n, u⟩ x) (hp : intoOk ⟨mkT t, h, n, u⟩ sz S X)
    (hk : evIs P is ⟨mkT ((d, V) :: t), h', n, u⟩ K) : evIs P (i :: is) ⟨mkT t, h, n, u⟩ K := by
  refine .inl ?_
  show ev1 P i _ _
  unfold ev1
  rw [hg]
  show evOp P i _ _
  unfold evOp
  rw [hop]
  subst hs hx hh hm
  refine ⟨os, ox, .inr ⟨hp, ?_⟩⟩
  rw [hd]
  have e : intoS ⟨mkT t, h, n, u⟩ (St.val ⟨mkT t, h, n, u⟩ s) (St.val ⟨mkT t, h, n, u⟩ x) = ⟨mkT t, (intoS ⟨mkT t, h, n, u⟩ (St.val ⟨mkT t, h, n, u⟩ s) (St.val ⟨mkT t, h, n, u⟩ x)).heap, n, u⟩ := by
    unfold intoS
    split <;> rfl
  rw [e]
  exact hk
theorem evX {sz : Nat} {ag : Bool} {z : List CV} {x : AOpr} {X : AV} {h' : Nat → Option Blk} (hop : i.op = .clr sz ag z x) (hg : i.g = none) (hd : i.dst = none) (hx : St.val ⟨mkT t, h, n, u⟩ x = X)
    (hh : (clrS ⟨mkT t, h, n, u⟩ ag z X).heap = h') (ox : St.ok ⟨mkT t, h, n, u⟩ x) (hp : clrOk ⟨mkT t, h, n, u⟩ sz ag z X) (hk : evIs P is ⟨mkT t, h', n, u⟩ K) : evIs P (i :: is) ⟨mkT t, h, n, u⟩ K := by
  refine .inl ?_
  show ev1 P i _ _
  unfold ev1
  rw [hg]
  show evOp P i _ _
  unfold evOp
  rw [hop]
  subst hx hh
  refine ⟨ox, hp, ?_⟩
  rw [hd]
  have e : clrS ⟨mkT t, h, n, u⟩ ag z (St.val ⟨mkT t, h, n, u⟩ x) = ⟨mkT t, (clrS ⟨mkT t, h, n, u⟩ ag z (St.val ⟨mkT t, h, n, u⟩ x)).heap, n, u⟩ := by
    unfold clrS
    split <;> rfl
  rw [e]
  exact hk
/-- A slice with a third bound; nothing is told of it. -/
theorem evY {x l b m : AOpr} (hop : i.op = .slm x l b m) (hg : i.g = none) (hd : i.dst = some d) (hp : slmOk ⟨mkT t, h, n, u⟩ x l b m) (hk : evIs P is ⟨mkT ((d, .undef) :: t), h, n, u⟩ K) : evIs P (i :: is) ⟨mkT t, h, n, u⟩ K := by
  refine .inl ?_
  show ev1 P i _ _
  unfold ev1
  rw [hg]
  show evOp P i _ _
  unfold evOp
  rw [hop]
  refine ⟨hp, ?_⟩
  rw [hd]
  exact hk
theorem evS {m : Nat} {ag : Bool} {a x : AOpr} {A X : AV} {h' : Nat → Option Blk} (hop : i.op = .store m ag a x) (hg : i.g = none) (hd : i.dst = none) (ha : St.val ⟨mkT t, h, n, u⟩ a = A) (hx : St.val ⟨mkT t, h, n, u⟩ x = X)
    (hh : (storeS ⟨mkT t, h, n, u⟩ A X).heap = h') (oa : St.ok ⟨mkT t, h, n, u⟩ a) (ox : St.ok ⟨mkT t, h, n, u⟩ x) (hp : storeOk ⟨mkT t, h, n, u⟩ m ag A X) (hk : evIs P is ⟨mkT t, h', n, u⟩ K) : evIs P (i :: is) ⟨mkT t, h, n, u⟩ K := by
  refine .inl ?_
  show ev1 P i _ _
  unfold ev1
  rw [hg]
  show evOp P i _ _
  unfold evOp
  rw [hop]
  subst ha hx hh
  refine ⟨oa, ox, hp, ?_⟩
  rw [hd]
  have e : storeS ⟨mkT t, h, n, u⟩ (St.val ⟨mkT t, h, n, u⟩ a) (St.val ⟨mkT t, h, n, u⟩ x) = ⟨mkT t, (storeS ⟨mkT t, h, n, u⟩ (St.val ⟨mkT t, h, n, u⟩ a) (St.val ⟨mkT t, h, n, u⟩ x)).heap, n, u⟩ := by
    unfold storeS
    split
    · simp only
      split <;> rfl
    · rfl
  rw [e]
  exact hk
end

/-! ### regions that draw -/
theorem evD1 {P : Program} {is : List AI} {ws : List (Nat × List Nat)} {i : Nat} {ii : AI} {s : Sch} {l : List Nat} {st : St} {K : St → Prop} (hi : is[i]? = some ii) (hg : ii.g = none) (hl : wsOf ws i = l)
    (h : evIs P [ii] st (fun st' => rechecks is st' l ∧ evT P is ws s st' K)) : evT P is ws (.take i s) st K := by
  subst hl
  simp only [evT, ev1t, hi]
  refine h.elim (fun h => h) (fun h => ?_)
  unfold evSkip at h
  rw [hg] at h
  exact h.elim
theorem evD2 {P : Program} {is : List AI} {ws : List (Nat × List Nat)} {i : Nat} {ii : AI} {s : Sch} {l : List Nat} {st : St} {K : St → Prop} (hi : is[i]? = some ii) (hg : ii.g = none) (hl : wsOf ws i = l)
    (h : evIs P [ii] st (fun st' => rechecks is st' l ∧ evT P is ws s st' K)) : evT P is ws (.one i s) st K := by
  subst hl
  simp only [evT, ev1t, hi]
  refine h.elim (fun h => h) (fun h => ?_)
  unfold evSkip at h
  rw [hg] at h
  exact h.elim
theorem evN {P : Program} {is : List AI} {ws : List (Nat × List Nat)} {s : Sch} {l : List Nat} {st : St} {K : St → Prop} (hr : rechecks is st l) (h : evT P is ws s st K) : evIs P [] st (fun st' => rechecks is st' l ∧ evT P is ws s st' K) := ⟨hr, h⟩
theorem evDone {P : Program} {is : List AI} {ws : List (Nat × List Nat)} {st : St} {K : St → Prop} (h : K st) : evT P is ws .done st K := h

theorem evZ {P : Program} {i : AI} {is : List AI} {t : List (Nat × AV)} {h : Nat → Option Blk} {n : Nat} {u : Nat → Bool} {K : St → Prop} {d : Nat} {ng : Bool} {x : AOpr} {X : AV} (hop : i.op = .eqz ng x) (hg : i.g = none) (hd : i.dst = some d) (hx : St.val ⟨mkT t, h, n, u⟩ x = X) (ho : St.ok ⟨mkT t, h, n, u⟩ x) (hs : isSl X = true)
    (hk : ∀ b, (0 < lenOf X → b = false) → evIs P is ⟨mkT ((d, .bool (if ng then !b else b)) :: t), h, n, u⟩ K) : evIs P (i :: is) ⟨mkT t, h, n, u⟩ K := by
  refine .inl ?_
  show ev1 P i _ _
  unfold ev1
  rw [hg]
  show evOp P i _ _
  unfold evOp
  rw [hop]
  subst hx
  refine ⟨ho, hs, fun b hb => ?_⟩
  rw [hd]
  exact hk b hb
theorem AW.condT {P : Program} {n : Nat} {st : St} {cx : AOpr} {x y : ACode} {Q : AE → St → Prop} (ho : st.ok cx) (hv : st.val cx = .bool true) (h : AW P n x st Q) : AW P n (.cond cx x y) st Q :=
  AW.cond ho (by rw [hv]; rfl) (fun _ => h) (fun hb => by rw [hv] at hb; cases hb)
theorem AW.condF {P : Program} {n : Nat} {st : St} {cx : AOpr} {x y : ACode} {Q : AE → St → Prop} (ho : st.ok cx) (hv : st.val cx = .bool false) (h : AW P n y st Q) : AW P n (.cond cx x y) st Q :=
  AW.cond ho (by rw [hv]; rfl) (fun hb => by rw [hv] at hb; cases hb) (fun _ => h)
theorem retI {rs : List ARes} {Q : AV → Prop} {st : St} {r : AV} (hq : Q r) (h : resOk st rs r) : retQ rs Q .ret st := ⟨r, hq, h⟩
theorem retN {rs : List ARes} {Q : AV → Prop} {st : St} {r : AV} (hq : Q r) (h : resOk st rs r) : retQ rs Q .normal st := ⟨r, hq, h⟩

/-! ### what simp reckons with -/
@[simp] theorem mkT_cons (d : Nat) (v : AV) (l : List (Nat × AV)) (k : Nat) : mkT ((d, v) :: l) k = if k = d then v else mkT l k := rfl
@[simp] theorem mkT_nil (k : Nat) : mkT [] k = .undef := rfl
@[simp] theorem hupd_eq (h : Nat → Option Blk) (r : Nat) (b : Option Blk) (q : Nat) : hupd h r b q = if q = r then b else h q := rfl
@[simp] theorem mkH_cons (r : Nat) (b : Blk) (l : List (Nat × Blk)) (q : Nat) : mkH ((r, b) :: l) q = if q = r then some b else mkH l q := rfl
@[simp] theorem mkH_nil (q : Nat) : mkH [] q = none := rfl
@[simp] theorem uupd_eq (u : Nat → Bool) (r q : Nat) : uupd u r q = if q = r then true else u q := rfl
@[simp] theorem val_t (t : Nat → AV) (h : Nat → Option Blk) (n : Nat) (u : Nat → Bool) (k : Nat) : St.val ⟨t, h, n, u⟩ (.t k) = (t k).strip := rfl
@[simp] theorem val_c (st : St) (c : CV) : st.val (.c c) = c.av := rfl
@[simp] theorem ok_t (t : Nat → AV) (h : Nat → Option Blk) (n : Nat) (u : Nat → Bool) (k : Nat) : St.ok ⟨t, h, n, u⟩ (.t k) = (t k).ok := rfl
@[simp] theorem ok_c (st : St) (c : CV) : st.ok (.c c) = True := rfl
@[simp] theorem blk_def (t : Nat → AV) (h : Nat → Option Blk) (n : Nat) (u : Nat → Bool) (r : Nat) : St.blk ⟨t, h, n, u⟩ r = (h r).getD ⟨0, false, []⟩ := rfl
@[simp high] theorem iteV_bb (c a b : Bool) : iteV c (.bool a) (.bool b) = .bool (if c then a else b) := rfl
@[simp] theorem iteV_ii (c : Bool) (k k' : IntKind) (a b : Int) : iteV c (.int k a) (.int k' b) = .int k (if c then a else b) := rfl
@[simp] theorem iteV_ss (c : Bool) (a b : ByteArray) : iteV c (.str a) (.str b) = .str (if c then a else b) := rfl
@[simp] theorem iteV_gg (c : Bool) (a b : List AV) : iteV c (.agg a) (.agg b) = if c then .agg a else .agg b := rfl
def pickT (X : AV) (b : Bool) : AV := iteV true X (.bool b)
def pickF (X : AV) (b : Bool) : AV := iteV false (.bool b) X
@[simp] theorem pickT_b (a b : Bool) : pickT (.bool a) b = .bool a := rfl
@[simp] theorem pickF_b (a b : Bool) : pickF (.bool a) b = .bool a := rfl
@[simp] theorem iteV_c (c : Bool) (X : AV) (b : Bool) : iteV c X (.bool b) = if c = true then pickT X b else .bool b := by cases c <;> cases X <;> simp [iteV, pickT]
@[simp] theorem iteV_d (c : Bool) (X : AV) (b : Bool) : iteV c (.bool b) X = if c = true then .bool b else pickF X b := by cases c <;> cases X <;> simp [iteV, pickF]
@[simp] theorem iteOk_ii (k k' : IntKind) (a b : Int) : iteOk (.int k a) (.int k' b) = (k = k') := rfl
@[simp] theorem iteOk_b1 (X : AV) (b : Bool) : iteOk X (.bool b) = True := by cases X <;> simp [iteOk]
@[simp] theorem iteOk_b2 (X : AV) (b : Bool) : iteOk (.bool b) X = True := by cases X <;> simp [iteOk]
@[simp] theorem iteOk_s1 (X : AV) (b : ByteArray) : iteOk X (.str b) = True := by cases X <;> simp [iteOk]
@[simp] theorem iteOk_g1 (X : AV) (b : List AV) : iteOk X (.agg b) = True := by cases X <;> simp [iteOk]
attribute [simp] argT CV.av CV.av.avs AV.strip AV.ok AV.one AV.shr flat vop pop rop binV binII binIIok binSS binSSok binOk cmpV eqCell eqCells isNil nilable ckOf boolOf intOf' isInt isBool fillA asVar St.there St.thereOk SK.cuts lo' hi' boundOk lenOf gcond gok AOp.quiet isSl usedV usedE
@[simp] theorem elemAt_zero (x : AV) (xs : List AV) : elemAt (x :: xs) 0 = x := rfl
@[simp] theorem elemAt_succ (x : AV) (xs : List AV) (n : Nat) : elemAt (x :: xs) (n + 1) = elemAt xs n := rfl
@[simp] theorem cells_agg (cs : List AV) : cellsOf (.agg cs) = cs := rfl
@[simp] theorem cells_int (k : IntKind) (n : Int) : cellsOf (.int k n) = [.int k n] := rfl
@[simp] theorem cells_bool (b : Bool) : cellsOf (.bool b) = [.bool b] := rfl
@[simp] theorem cells_str (s : ByteArray) : cellsOf (.str s) = [.str s] := rfl
@[simp] theorem cells_nilp  : cellsOf (.nilp) = [.nilp] := rfl
@[simp] theorem cells_nilf  : cellsOf (.nilf) = [.nilf] := rfl
@[simp] theorem cells_nili  : cellsOf (.nili) = [.nili] := rfl
@[simp] theorem cells_ptr (r i o : Nat) : cellsOf (.ptr r i o) = [.ptr r i o] := rfl
@[simp] theorem cells_fptr (v : AV) (o : Nat) : cellsOf (.fptr v o) = [.fptr v o] := rfl
@[simp] theorem cells_sl (k : SK) (xs : List AV) : cellsOf (.sl k xs) = [.sl k xs] := rfl
@[simp] theorem cells_hdr (r o n : Nat) : cellsOf (.hdr r o n) = [.hdr r o n] := rfl
@[simp] theorem cells_fn (f : Nat) (cs : List AV) : cellsOf (.fn f cs) = [.fn f cs] := rfl
@[simp] theorem cells_mfn (f : Nat) (cs : List AV) : cellsOf (.mfn f cs) = [.mfn f cs] := rfl
@[simp] theorem cells_ifc (t : Nat) (v : AV) : cellsOf (.ifc t v) = [.ifc t v] := rfl
@[simp] theorem fzA_int (h : Nat → Option Blk) (k : IntKind) (n : Int) : fzA h (AV.int k n) = AV.int k n := by simp [fzA, mapA, mapAs_eq]
@[simp] theorem clC_int (k : IntKind) (n : Int) : clC (AV.int k n) = AV.int k n := by simp [clC, mapA, mapAs_eq]
@[simp] theorem fzA_bool (h : Nat → Option Blk) (b : Bool) : fzA h (AV.bool b) = AV.bool b := by simp [fzA, mapA, mapAs_eq]
@[simp] theorem clC_bool (b : Bool) : clC (AV.bool b) = AV.bool b := by simp [clC, mapA, mapAs_eq]
@[simp] theorem fzA_str (h : Nat → Option Blk) (s : ByteArray) : fzA h (AV.str s) = AV.str s := by simp [fzA, mapA, mapAs_eq]
@[simp] theorem clC_str (s : ByteArray) : clC (AV.str s) = AV.str s := by simp [clC, mapA, mapAs_eq]
@[simp] theorem fzA_nilp (h : Nat → Option Blk)  : fzA h (AV.nilp) = AV.nilp := by simp [fzA, mapA, mapAs_eq]
@[simp] theorem clC_nilp  : clC (AV.nilp) = AV.nilp := by simp [clC, mapA, mapAs_eq]
@[simp] theorem fzA_nilf (h : Nat → Option Blk)  : fzA h (AV.nilf) = AV.nilf := by simp [fzA, mapA, mapAs_eq]
@[simp] theorem clC_nilf  : clC (AV.nilf) = AV.nilf := by simp [clC, mapA, mapAs_eq]
@[simp] theorem fzA_nili (h : Nat → Option Blk)  : fzA h (AV.nili) = AV.nili := by simp [fzA, mapA, mapAs_eq]
@[simp] theorem clC_nili  : clC (AV.nili) = AV.nili := by simp [clC, mapA, mapAs_eq]
@[simp] theorem fzA_fro (h : Nat → Option Blk) (xs : List AV) : fzA h (AV.sl .fro xs) = AV.sl .fro xs := by simp [fzA, mapA, mapAs_eq]
@[simp] theorem clC_fro (xs : List AV) : clC (AV.sl .fro xs) = AV.sl .fro xs := by simp [clC, mapA, mapAs_eq]
@[simp] theorem fzA_ext (h : Nat → Option Blk) (xs : List AV) : fzA h (AV.sl .ext xs) = AV.sl .fro (xs.map (fzA h)) := by simp [fzA, mapA, mapAs_eq]
@[simp] theorem clC_ext (xs : List AV) : clC (AV.sl .ext xs) = AV.sl .fro (xs.map (clC)) := by simp [clC, mapA, mapAs_eq]
@[simp] theorem fzA_own (h : Nat → Option Blk) (sz : Nat) (xs : List AV) : fzA h (AV.sl (.own sz) xs) = AV.sl .fro (xs.map (fzA h)) := by simp [fzA, mapA, mapAs_eq]
@[simp] theorem clC_own (sz : Nat) (xs : List AV) : clC (AV.sl (.own sz) xs) = AV.sl .fro (xs.map (clC)) := by simp [clC, mapA, mapAs_eq]
@[simp] theorem fzA_agg (h : Nat → Option Blk) (cs : List AV) : fzA h (AV.agg cs) = AV.agg (cs.map (fzA h)) := by simp [fzA, mapA, mapAs_eq]
@[simp] theorem clC_agg (cs : List AV) : clC (AV.agg cs) = AV.agg (cs.map (clC)) := by simp [clC, mapA, mapAs_eq]
@[simp] theorem fzA_tup (h : Nat → Option Blk) (cs : List AV) : fzA h (AV.tup cs) = AV.tup (cs.map (fzA h)) := by simp [fzA, mapA, mapAs_eq]
@[simp] theorem clC_tup (cs : List AV) : clC (AV.tup cs) = AV.tup (cs.map (clC)) := by simp [clC, mapA, mapAs_eq]
@[simp] theorem fzA_fn (h : Nat → Option Blk) (f : Nat) (cs : List AV) : fzA h (AV.fn f cs) = AV.fn f (cs.map (fzA h)) := by simp [fzA, mapA, mapAs_eq]
@[simp] theorem clC_fn (f : Nat) (cs : List AV) : clC (AV.fn f cs) = AV.fn f (cs.map (clC)) := by simp [clC, mapA, mapAs_eq]
@[simp] theorem fzA_mfn (h : Nat → Option Blk) (f : Nat) (cs : List AV) : fzA h (AV.mfn f cs) = AV.mfn f (cs.map (fzA h)) := by simp [fzA, mapA, mapAs_eq]
@[simp] theorem clC_mfn (f : Nat) (cs : List AV) : clC (AV.mfn f cs) = AV.mfn f (cs.map (clC)) := by simp [clC, mapA, mapAs_eq]
@[simp] theorem fzA_ifc (h : Nat → Option Blk) (t : Nat) (v : AV) : fzA h (AV.ifc t v) = AV.ifc t (fzA h v) := by simp [fzA, mapA, mapAs_eq]
@[simp] theorem clC_ifc (t : Nat) (v : AV) : clC (AV.ifc t v) = AV.ifc t (clC v) := by simp [clC, mapA, mapAs_eq]
@[simp] theorem fzA_fptr (h : Nat → Option Blk) (v : AV) (o : Nat) : fzA h (AV.fptr v o) = AV.fptr (fzA h v) o := by simp [fzA, mapA, mapAs_eq]
@[simp] theorem clC_fptr (v : AV) (o : Nat) : clC (AV.fptr v o) = AV.fptr (clC v) o := by simp [clC, mapA, mapAs_eq]
@[simp] theorem fzA_hdr (h : Nat → Option Blk) (r o n : Nat) : fzA h (.hdr r o n) = fzB h r o n := rfl
@[simp] theorem fzA_ptr (h : Nat → Option Blk) (r i o : Nat) : fzA h (.ptr r i o) = fzQ h r i o := rfl
attribute [simp] okA okAs St.olds St.news St.newsUsed St.oldsUsed St.newsOk St.oldsOk hdel closeV closeE closeOk
end Go.Amb

set_option linter.unusedSimpArgs false
set_option linter.unusedVariables false
namespace Go.Amb
open Go Go.RowKit
section
variable {P : Program} {n : Nat} {st st' : St} {x : ACode} {Q : AE → St → Prop}
/-- What is reached is told otherwise. -/
theorem AW.out (h : AW P n x st (fun e s => ∃ s', Fit s s' ∧ Q e s')) : AW P n x st Q := fun c hc E a w hP hn hR =>
  wp_mono (h c hc E a w hP hn hR) fun e a' w' ⟨e', h1, s, ⟨s', hf, hq⟩, h3⟩ => ⟨e', h1, s', hq, hf E a' w' h3⟩
/-- A stop between two parts. -/
theorem AW.cut {y : ACode} (h : AW P n x st (fun e s => e = .normal ∧ Fit s st')) (k : AW P n y st' Q) : AW P n (.seq x y) st Q :=
  AW.seq (AW.mono h fun e s ⟨he, hf⟩ => by subst he; exact AW.fit hf k)
end
/-- Calls of which only a part is told. -/
theorem evCb {P : Program} {i : AI} {is : List AI} {t : List (Nat × AV)} {h : Nat → Option Blk} {n : Nat} {u : Nat → Bool} {K : St → Prop} {d : Nat} {f : Nat} {args : List AOpr} {vs vs' : List AV} {B : Bool → Prop} (hop : i.op = .call f args) (hg : i.g = none) (hd : i.dst = some d) (had : i.ad = false) (hvs : args.map (St.val ⟨mkT t, h, n, u⟩) = vs) (hvs' : vs.map (fzA h) = vs')
    (hA : ACall P f vs' (fun r => ∃ b, r = .bool b ∧ B b)) (ho : ∀ x ∈ args, St.ok ⟨mkT t, h, n, u⟩ x) (hcl : okAs noF noF vs ∨ okAs (okB h) (okQ h) vs) (hk : ∀ b, B b → evIs P is ⟨mkT ((d, .bool b) :: t), h, n, u⟩ K) :
    evIs P (i :: is) ⟨mkT t, h, n, u⟩ K := by
  refine .inl ?_
  show ev1 P i _ _
  unfold ev1
  rw [hg]
  show evOp P i _ _
  unfold evOp
  rw [hop]
  subst hvs hvs'
  refine ⟨ho, .inl ⟨_, hA, ?_⟩⟩
  have hret : ∀ r, (∃ b, r = .bool b ∧ B b) → retK i ⟨mkT t, h, n, u⟩ (fun st' => evIs P is st' K) r := by
    rintro _ ⟨b, rfl, hb⟩
    unfold retK
    rw [had, if_neg (by simp), hd]
    exact hk b hb
  rcases hcl with hcl | hcl
  · exact .inl ⟨hcl, hret⟩
  · exact .inr ⟨hcl, fun r hr => ⟨by obtain ⟨b, rfl, _⟩ := hr; rfl, hret r hr⟩⟩
theorem evCi {P : Program} {i : AI} {is : List AI} {t : List (Nat × AV)} {h : Nat → Option Blk} {n : Nat} {u : Nat → Bool} {K : St → Prop} {d : Nat} {f : Nat} {args : List AOpr} {vs vs' : List AV} {B : Int → Prop} (hop : i.op = .call f args) (hg : i.g = none) (hd : i.dst = some d) (had : i.ad = false) (hvs : args.map (St.val ⟨mkT t, h, n, u⟩) = vs) (hvs' : vs.map (fzA h) = vs')
    (hA : ACall P f vs' (fun r => ∃ b, r = AV.int .i64 b ∧ B b)) (ho : ∀ x ∈ args, St.ok ⟨mkT t, h, n, u⟩ x) (hcl : okAs noF noF vs ∨ okAs (okB h) (okQ h) vs) (hk : ∀ b, B b → evIs P is ⟨mkT ((d, AV.int .i64 b) :: t), h, n, u⟩ K) :
    evIs P (i :: is) ⟨mkT t, h, n, u⟩ K := by
  refine .inl ?_
  show ev1 P i _ _
  unfold ev1
  rw [hg]
  show evOp P i _ _
  unfold evOp
  rw [hop]
  subst hvs hvs'
  refine ⟨ho, .inl ⟨_, hA, ?_⟩⟩
  have hret : ∀ r, (∃ b, r = AV.int .i64 b ∧ B b) → retK i ⟨mkT t, h, n, u⟩ (fun st' => evIs P is st' K) r := by
    rintro _ ⟨b, rfl, hb⟩
    unfold retK
    rw [had, if_neg (by simp), hd]
    exact hk b hb
  rcases hcl with hcl | hcl
  · exact .inl ⟨hcl, hret⟩
  · exact .inr ⟨hcl, fun r hr => ⟨by obtain ⟨b, rfl, _⟩ := hr; rfl, hret r hr⟩⟩
theorem evTwo {P : Program} {is : List AI} {ws : List (Nat × List Nat)} {i j : Nat} {s t : Sch} {st : St} {K : St → Prop} (h1 : evT P is ws (.one i s) st K) (h2 : evT P is ws (.one j t) st K) : evT P is ws (.two i s j t) st K := ⟨h1, h2⟩
theorem evThree {P : Program} {is : List AI} {ws : List (Nat × List Nat)} {i j k : Nat} {s t u : Sch} {st : St} {K : St → Prop} (h1 : evT P is ws (.one i s) st K) (h2 : evT P is ws (.one j t) st K) (h3 : evT P is ws (.one k u) st K) : evT P is ws (.three i s j t k u) st K := ⟨h1, h2, h3⟩
/-- A drawn operation under a guard that holds. -/
theorem evD1g {P : Program} {is : List AI} {ws : List (Nat × List Nat)} {i : Nat} {ii : AI} {s : Sch} {l : List Nat} {st : St} {K : St → Prop} {g : Nat} {b : Bool} (hi : is[i]? = some ii) (hg : ii.g = some (g, b)) (hl : wsOf ws i = l) (hc : gcond st g b = true)
    (h : evIs P [ii] st (fun st' => rechecks is st' l ∧ evT P is ws s st' K)) : evT P is ws (.take i s) st K := by
  subst hl
  simp only [evT, ev1t, hi]
  refine h.elim (fun h => h) (fun h => ?_)
  unfold evSkip at h
  rw [hg] at h
  exact absurd (hc.symm.trans h.2.1) (by simp)
/-- A drawn operation under a guard that does not hold. -/
theorem evD1f {P : Program} {is : List AI} {ws : List (Nat × List Nat)} {i : Nat} {ii : AI} {s : Sch} {l : List Nat} {t : List (Nat × AV)} {h : Nat → Option Blk} {n : Nat} {u : Nat → Bool} {K : St → Prop} {d g : Nat} {b : Bool} (hi : is[i]? = some ii) (hg : ii.g = some (g, b)) (hl : wsOf ws i = l) (hq : ii.op.quiet = true) (hd : ii.dst = some d)
    (hc : gcond ⟨mkT t, h, n, u⟩ g b = false) (hk : gok ⟨mkT t, h, n, u⟩ g) (hr : ∀ X, evIs P [] ⟨mkT ((d, .grd false X) :: t), h, n, u⟩ (fun st' => rechecks is st' l ∧ evT P is ws s st' K)) : evT P is ws (.take i s) ⟨mkT t, h, n, u⟩ K := by
  subst hl
  simp only [evT, ev1t, hi]
  rw [ev1_quiet hq]
  unfold ok1 val1
  rw [hg, hd]
  refine ⟨⟨hk, fun e => absurd (hc.symm.trans e) (by simp)⟩, ?_⟩
  simp only [hc]
  exact hr _
theorem evD2f {P : Program} {is : List AI} {ws : List (Nat × List Nat)} {i : Nat} {ii : AI} {s : Sch} {l : List Nat} {t : List (Nat × AV)} {h : Nat → Option Blk} {n : Nat} {u : Nat → Bool} {K : St → Prop} {d g : Nat} {b : Bool} (hi : is[i]? = some ii) (hg : ii.g = some (g, b)) (hl : wsOf ws i = l) (hq : ii.op.quiet = true) (hd : ii.dst = some d)
    (hc : gcond ⟨mkT t, h, n, u⟩ g b = false) (hk : gok ⟨mkT t, h, n, u⟩ g) (hr : ∀ X, evIs P [] ⟨mkT ((d, .grd false X) :: t), h, n, u⟩ (fun st' => rechecks is st' l ∧ evT P is ws s st' K)) : evT P is ws (.one i s) ⟨mkT t, h, n, u⟩ K := by
  exact evD1f hi hg hl hq hd hc hk hr
theorem evD2g {P : Program} {is : List AI} {ws : List (Nat × List Nat)} {i : Nat} {ii : AI} {s : Sch} {l : List Nat} {st : St} {K : St → Prop} {g : Nat} {b : Bool} (hi : is[i]? = some ii) (hg : ii.g = some (g, b)) (hl : wsOf ws i = l) (hc : gcond st g b = true)
    (h : evIs P [ii] st (fun st' => rechecks is st' l ∧ evT P is ws s st' K)) : evT P is ws (.one i s) st K := by
  subst hl
  simp only [evT, ev1t, hi]
  refine h.elim (fun h => h) (fun h => ?_)
  unfold evSkip at h
  rw [hg] at h
  exact absurd (hc.symm.trans h.2.1) (by simp)
/-- The first elements of a list, each turned. -/
def pre {α : Type} (f : α → AV) (xs : List α) (i : Nat) : List AV := (xs.take i).map f
section
variable {α : Type} {f : α → AV} {xs : List α} {i : Nat}
theorem pre_len (h : i ≤ xs.length) : (pre f xs i).length = i := by simp [pre, h]
theorem pre_add {v : α} (h : xs[i]? = some v) : pre f xs i ++ [f v] = pre f xs (i + 1) := by
  simp [pre, List.take_add_one, h]
theorem pre_zero : pre f xs 0 = [] := rfl
theorem pre_full : pre f xs xs.length = xs.map f := by simp [pre]
theorem elem_map {v : α} (h : xs[i]? = some v) : elemAt (xs.map f) i = f v := by simp [elemAt, h]
end
end Go.Amb

set_option linter.unusedSimpArgs false
set_option linter.unusedVariables false
namespace Go.Amb
open Go Go.RowKit

def oneOf : List AV → AV
  | [v] => v
  | vs => .tup vs
/-- How a function ends that gives its roots back. -/
def retB (rs : List ARes) (H0 : List (Nat × Blk)) (N : Nat) (Q : List (Nat × Blk) → Nat → AV → Prop) : AE → St → Prop
  | .exit _, _ => False
  | _, s => resP s rs ∧ ∃ H1 n' rv, Q H1 n' (oneOf rv) ∧ N ≤ n' ∧ (∀ p ∈ H1, (mkH H0 p.1).isSome = true ∨ N ≤ p.1) ∧ rv.length = rs.length ∧ (∀ v ∈ rv, v ≠ .undef) ∧
      Fit ⟨mkT (argT 0 (resV s rs)), s.heap, s.nx, s.us⟩ (mkS (argT 0 rv) H1 n')
/-- The abstract code is the function's. -/
def Coded (P : Program) (f n : Nat) (ac : ACode) (rs : List ARes) : Prop :=
  ∃ fn c, P.funcs[f]? = some fn ∧ fn.body = some c ∧ (fn.name != "runtime.NumGoroutine") = true ∧ fn.ntmps = n ∧ chkCode P n c ac = true ∧ chkRs P fn.results.toList rs = true

theorem vals_each {w : World} {O : Nat → Prop} {B : Nat} {pl : Pls} : ∀ (rv : List AV) (us : List Value), rv.length = us.length → (∀ (i : Nat) v, rv[i]? = some v → ∃ u, us[i]? = some u ∧ Vals w O B pl [v] [u] []) → Vals w O B pl rv us []
  | [], [], _, _ => .nil
  | v :: rv, u :: us, hl, h => by
    obtain ⟨u', h1, h2⟩ := h 0 v rfl
    simp at h1
    subst h1
    exact h2.cons (vals_each rv us (by simpa using hl) fun i v hv => by simpa using h (i + 1) v (by simpa using hv))
  | [], _ :: _, hl, _ => by simp at hl
  | _ :: _, [], hl, _ => by simp at hl
theorem mkT_at : ∀ (args : List AV) (i d : Nat) (v : AV), args[d]? = some v → mkT (argT i args) (i + d) = v
  | [], _, _, _, h => by simp at h
  | x :: xs, i, 0, v, h => by simp [argT, mkT, tupd] at h ⊢; exact h
  | x :: xs, i, d + 1, v, h => by
    have := mkT_at xs (i + 1) d v (by simpa using h)
    rw [show i + 1 + d = i + (d + 1) by omega] at this
    simp only [argT, mkT, tupd]
    rw [if_neg (by omega)]
    exact this

theorem acall_coded {P : Program} {f n : Nat} {ac : ACode} {rs : List ARes} (hcd : Coded P f n ac rs) {args : List AV} {Q : AV → Prop} (hlen : args.length ≤ n) (h : AW P n ac (mkS (argT 0 args) [] 0) (retQ rs Q)) : ACall P f args Q := by
  obtain ⟨fn, c, h1, h2, h3, rfl, h4, h5⟩ := hcd
  exact acall_of h1 h2 h3 h4 h5 hlen h

theorem bcall_coded {P : Program} {f n : Nat} {ac : ACode} {rs : List ARes} (hcd : Coded P f n ac rs) {args : List AV} {H0 : List (Nat × Blk)} {N : Nat} {Q : List (Nat × Blk) → Nat → AV → Prop} (hlen : args.length ≤ n)
    (h : AW P n ac (mkS (argT 0 args) H0 N) (retB rs H0 N Q)) : BCall P f H0 N args Q := by
  obtain ⟨fn, c, hf, hb, hn, rfl, hc, hr⟩ := hcd
  refine ⟨?_, fun E a pl fp us hP hnb hpl hR hv => ?_⟩
  · unfold bodied
    rw [hf]
    simp only [hb, Option.isSome_some, Bool.true_and]
    exact hn
  · refine calls_of_wp hf hb ?_
    let E2 : Env := ⟨P, fn.ntmps, E.w0, E.X, E.G, E.pl0, E.nb⟩
    have hul : us.length = args.length := hv.length
    have hR2 : RelW E2 (mkS (argT 0 args) H0 N) { tmps := us.toArray ++ Array.replicate (fn.ntmps - us.toArray.size) undef, defers := [] } E.w0 pl fp :=
      { size := by simp [E2]; omega
        defers := rfl, plx := hR.plx, unused := hR.unused, used := hR.used, usnb := hR.usnb, roots := hR.roots, nodup := hR.nodup, own := hR.own, disj := hR.disj, xold := hR.xold, gold := hR.gold
        tmps := fun d hd => by
          obtain ⟨_, h1⟩ := mkT_arg args 0 d hd
          obtain ⟨u, h2, h3⟩ := hv.get0 _ _ h1
          refine ⟨u, ?_, h3⟩
          simp only [Nat.sub_zero] at h2
          have hlt : d < us.length := (List.getElem?_eq_some_iff.1 h2).1
          rw [Array.getElem?_append_left (by simpa using hlt)]
          simpa using h2
        keeps := hR.keeps }
    refine wp_mono (h c hc E2 _ E.w0 rfl rfl ⟨pl, fp, hR2⟩) ?_
    rintro e a' w' ⟨e', he, s, hq, pl', fp', hR'⟩
    have fin : (resP s rs ∧ ∃ H1 n' rv, Q H1 n' (oneOf rv) ∧ N ≤ n' ∧ (∀ p ∈ H1, (mkH H0 p.1).isSome = true ∨ N ≤ p.1) ∧ rv.length = rs.length ∧ (∀ v ∈ rv, v ≠ .undef) ∧ Fit ⟨mkT (argT 0 (resV s rs)), s.heap, s.nx, s.us⟩ (mkS (argT 0 rv) H1 n')) →
        a'.defers = [] ∧ ∃ v, (results fn a'.tmps).run P w' = .ok v w' ∧ Ends E H0 N Q (.returned v) w' := by
      rintro ⟨hp, H1, n', rv, hQ, hNn, hk, hlr, hnu, hfit⟩
      obtain ⟨us', h1, h2⟩ := res_run hR' _ _ hr hp
      have hl2 : us'.length = rs.length := by rw [h2.length]; simp [resV]
      let E3 : Env := ⟨P, us'.length, E.w0, E.X, E.G, E.pl0, E.nb⟩
      have hR3 : RelW E3 ⟨mkT (argT 0 (resV s rs)), s.heap, s.nx, s.us⟩ { tmps := us'.toArray, defers := [] } w' pl' fp' :=
        { size := by simp [E3]
          defers := rfl, plx := hR'.plx, unused := hR'.unused, used := hR'.used, usnb := hR'.usnb, roots := hR'.roots, nodup := hR'.nodup, own := hR'.own, disj := hR'.disj, xold := hR'.xold, gold := hR'.gold
          tmps := fun d hd => by
            obtain ⟨_, h1⟩ := mkT_arg _ 0 d hd
            obtain ⟨u, h3, h4⟩ := h2.get0 _ _ h1
            refine ⟨u, ?_, h4⟩
            simpa using h3
          keeps := hR'.keeps }
      obtain ⟨pl'', fp'', hR4⟩ := hfit E3 _ w' ⟨pl', fp', hR3⟩
      have hvs : Vals w' (Own E (mkS [] H1 n') fp'') E.w0.heap.size pl'' rv us' [] := by
        refine vals_each rv us' (by omega) fun i v hi => ?_
        have ht : (mkS (argT 0 rv) H1 n').tmp i = v := by
          have := mkT_at rv 0 i v hi
          simpa [mkS] using this
        obtain ⟨u, h5, h6⟩ := hR4.tmps i (by rw [ht]; exact hnu v (List.mem_of_getElem? hi))
        rw [ht] at h6
        exact ⟨u, by simpa using h5, h6⟩
      have hR5 : RelW E (mkS [] H1 n') a w' pl'' fp'' :=
        { size := hR.size, defers := hR.defers, plx := hR4.plx, unused := hR4.unused, used := hR4.used, usnb := hR4.usnb, roots := hR4.roots, nodup := hR4.nodup, own := hR4.own, disj := hR4.disj, xold := hR4.xold, gold := hR4.gold
          tmps := fun d hd => absurd rfl hd
          keeps := hR4.keeps }
      have hrun : ∀ v, (if h : us'.toArray.size = 1 then us'.toArray[0] else .tuple us'.toArray) = v → (results fn a'.tmps).run P w' = .ok v w' := by
        intro v hv
        show ((fn.results.mapM (res1F a')) >>= fun vs => pure (if h : vs.size = 1 then vs[0] else .tuple vs)).run P w' = _
        have h1' : (fn.results.toList.mapM (res1F a')).run P w' = .ok us' w' := h1
        rw [Array.mapM_eq_mapM_toList]
        simp [h1']
        simpa using hv
      have hkk : ∀ q, (mkH H1 q).isSome = true → (mkH H0 q).isSome = true ∨ N ≤ q := by
        intro q hq
        cases hm : mkH H1 q with
        | none => rw [hm] at hq; cases hq
        | some b => exact hk _ (mkH_mem hm)
      refine ⟨hR'.defers, _, hrun _ rfl, H1, n', oneOf rv, a, pl'', fp'', hQ, hNn, hkk, hR5, ?_⟩
      by_cases h1l : us'.length = 1
      · obtain ⟨u, rfl⟩ := List.length_eq_one_iff.1 h1l
        obtain ⟨v, rfl⟩ := List.length_eq_one_iff.1 (show rv.length = 1 by omega)
        simpa [oneOf] using hvs
      · rw [dif_neg (by simpa using h1l)]
        have : oneOf rv = .tup rv := by
          unfold oneOf
          split
          · simp at hlr; omega
          · rfl
        rw [this]
        have := Vals.tup hvs .nil
        simpa using this
    cases e <;> simp only [AE.of, reduceCtorEq] at he <;> injection he with he <;> subst he
    · exact fin hq
    · exact hq.elim
    · exact fin hq

/-- A call that is handed roots. -/
theorem evL {P : Program} {i : AI} {is : List AI} {t : List (Nat × AV)} {h : Nat → Option Blk} {n : Nat} {u : Nat → Bool} {K : St → Prop} {d : Nat} {f : Nat} {args : List AOpr} {vs : List AV} {H0 : List (Nat × Blk)} {N : Nat} {Q : List (Nat × Blk) → Nat → AV → Prop}
    (hop : i.op = .call f args) (hg : i.g = none) (hd : i.dst = some d) (hvs : args.map (St.val ⟨mkT t, h, n, u⟩) = vs) (hA : BCall P f H0 N vs Q) (ho : ∀ x ∈ args, St.ok ⟨mkT t, h, n, u⟩ x) (hH : ∀ p ∈ H0, h p.1 = some p.2) (hN : ∀ r, u r = true → r < N)
    (hk : ∀ H1 n' r, Q H1 n' r → evIs P is ⟨mkT ((d, r) :: t), over H0 H1 h, n, fun q => u q || (decide (N ≤ q) && decide (q < n'))⟩ K) : evIs P (i :: is) ⟨mkT t, h, n, u⟩ K := by
  refine .inl ?_
  show ev1 P i _ _
  unfold ev1
  rw [hg]
  show evOp P i _ _
  unfold evOp
  rw [hop]
  subst hvs
  refine ⟨ho, .inr ⟨H0, N, Q, hA, fun q b hq => hH _ (mkH_mem hq), hN, fun H1 n' r hq => ?_⟩⟩
  rw [hd]
  exact hk H1 n' r hq
/-- A call that is handed roots and whose result is not kept. -/
theorem evL0 {P : Program} {i : AI} {is : List AI} {t : List (Nat × AV)} {h : Nat → Option Blk} {n : Nat} {u : Nat → Bool} {K : St → Prop} {f : Nat} {args : List AOpr} {vs : List AV} {H0 : List (Nat × Blk)} {N : Nat} {Q : List (Nat × Blk) → Nat → AV → Prop}
    (hop : i.op = .call f args) (hg : i.g = none) (hd : i.dst = none) (hvs : args.map (St.val ⟨mkT t, h, n, u⟩) = vs) (hA : BCall P f H0 N vs Q) (ho : ∀ x ∈ args, St.ok ⟨mkT t, h, n, u⟩ x) (hH : ∀ p ∈ H0, h p.1 = some p.2) (hN : ∀ r, u r = true → r < N)
    (hk : ∀ H1 n' r, Q H1 n' r → evIs P is ⟨mkT t, over H0 H1 h, n, fun q => u q || (decide (N ≤ q) && decide (q < n'))⟩ K) : evIs P (i :: is) ⟨mkT t, h, n, u⟩ K := by
  refine .inl ?_
  show ev1 P i _ _
  unfold ev1
  rw [hg]
  show evOp P i _ _
  unfold evOp
  rw [hop]
  subst hvs
  refine ⟨ho, .inr ⟨H0, N, Q, hA, fun q b hq => hH _ (mkH_mem hq), hN, fun H1 n' r hq => ?_⟩⟩
  rw [hd]
  exact hk H1 n' r hq
/-- A call of a function value that is handed roots. -/
theorem evLv {P : Program} {i : AI} {is : List AI} {t : List (Nat × AV)} {h : Nat → Option Blk} {n : Nat} {u : Nat → Bool} {K : St → Prop} {d : Nat} {f : Nat} {x : AOpr} {caps : List AV} {args : List AOpr} {vs : List AV} {H0 : List (Nat × Blk)} {N : Nat} {Q : List (Nat × Blk) → Nat → AV → Prop}
    (hop : i.op = .callv x args) (hg : i.g = none) (hd : i.dst = some d) (hx : St.val ⟨mkT t, h, n, u⟩ x = .fn f caps) (hvs : args.map (St.val ⟨mkT t, h, n, u⟩) ++ caps = vs) (hA : BCall P f H0 N vs Q) (hox : St.ok ⟨mkT t, h, n, u⟩ x) (ho : ∀ x ∈ args, St.ok ⟨mkT t, h, n, u⟩ x) (hH : ∀ p ∈ H0, h p.1 = some p.2) (hN : ∀ r, u r = true → r < N)
    (hk : ∀ H1 n' r, Q H1 n' r → evIs P is ⟨mkT ((d, r) :: t), over H0 H1 h, n, fun q => u q || (decide (N ≤ q) && decide (q < n'))⟩ K) : evIs P (i :: is) ⟨mkT t, h, n, u⟩ K := by
  refine .inl ?_
  show ev1 P i _ _
  unfold ev1
  rw [hg]
  show evOp P i _ _
  unfold evOp
  rw [hop]
  subst hvs
  refine ⟨hox, ho, ?_⟩
  rw [hx]
  refine .inr ⟨H0, N, Q, hA, fun q b hq => hH _ (mkH_mem hq), hN, fun H1 n' r hq => ?_⟩
  rw [hd]
  exact hk H1 n' r hq
theorem evLv0 {P : Program} {i : AI} {is : List AI} {t : List (Nat × AV)} {h : Nat → Option Blk} {n : Nat} {u : Nat → Bool} {K : St → Prop} {f : Nat} {x : AOpr} {caps : List AV} {args : List AOpr} {vs : List AV} {H0 : List (Nat × Blk)} {N : Nat} {Q : List (Nat × Blk) → Nat → AV → Prop}
    (hop : i.op = .callv x args) (hg : i.g = none) (hd : i.dst = none) (hx : St.val ⟨mkT t, h, n, u⟩ x = .fn f caps) (hvs : args.map (St.val ⟨mkT t, h, n, u⟩) ++ caps = vs) (hA : BCall P f H0 N vs Q) (hox : St.ok ⟨mkT t, h, n, u⟩ x) (ho : ∀ x ∈ args, St.ok ⟨mkT t, h, n, u⟩ x) (hH : ∀ p ∈ H0, h p.1 = some p.2) (hN : ∀ r, u r = true → r < N)
    (hk : ∀ H1 n' r, Q H1 n' r → evIs P is ⟨mkT t, over H0 H1 h, n, fun q => u q || (decide (N ≤ q) && decide (q < n'))⟩ K) : evIs P (i :: is) ⟨mkT t, h, n, u⟩ K := by
  refine .inl ?_
  show ev1 P i _ _
  unfold ev1
  rw [hg]
  show evOp P i _ _
  unfold evOp
  rw [hop]
  subst hvs
  refine ⟨hox, ho, ?_⟩
  rw [hx]
  refine .inr ⟨H0, N, Q, hA, fun q b hq => hH _ (mkH_mem hq), hN, fun H1 n' r hq => ?_⟩
  rw [hd]
  exact hk H1 n' r hq
/-- A call of a method value that is handed roots; its result is not kept. -/
theorem evLm0 {P : Program} {i : AI} {is : List AI} {t : List (Nat × AV)} {h : Nat → Option Blk} {n : Nat} {u : Nat → Bool} {K : St → Prop} {f : Nat} {x : AOpr} {caps : List AV} {args : List AOpr} {vs : List AV} {H0 : List (Nat × Blk)} {N : Nat} {Q : List (Nat × Blk) → Nat → AV → Prop}
    (hop : i.op = .callv x args) (hg : i.g = none) (hd : i.dst = none) (hx : St.val ⟨mkT t, h, n, u⟩ x = .mfn f caps) (hvs : caps ++ args.map (St.val ⟨mkT t, h, n, u⟩) = vs) (hA : BCall P f H0 N vs Q) (hox : St.ok ⟨mkT t, h, n, u⟩ x) (ho : ∀ x ∈ args, St.ok ⟨mkT t, h, n, u⟩ x) (hH : ∀ p ∈ H0, h p.1 = some p.2) (hN : ∀ r, u r = true → r < N)
    (hk : ∀ H1 n' r, Q H1 n' r → evIs P is ⟨mkT t, over H0 H1 h, n, fun q => u q || (decide (N ≤ q) && decide (q < n'))⟩ K) : evIs P (i :: is) ⟨mkT t, h, n, u⟩ K := by
  refine .inl ?_
  show ev1 P i _ _
  unfold ev1
  rw [hg]
  show evOp P i _ _
  unfold evOp
  rw [hop]
  subst hvs
  refine ⟨hox, ho, ?_⟩
  rw [hx]
  refine .inr ⟨H0, N, Q, hA, fun q b hq => hH _ (mkH_mem hq), hN, fun H1 n' r hq => ?_⟩
  rw [hd]
  exact hk H1 n' r hq
end Go.Amb

set_option linter.unusedVariables false
set_option linter.unusedSimpArgs false
namespace Go.Amb
open Go
theorem wQ {P : Program} {i : AI} {is : List AI} {t : List (Nat × AV)} {h : Nat → Option Blk} {n : Nat} {u : Nat → Bool} {K : St → Prop} {d : Nat} {v : AV}  (hk : evIs P is ⟨mkT ((d, v) :: t), h, n, u⟩ K) (hq : i.op.quiet = true := by exact rfl) (hg : i.g = none := by exact rfl) (hd : i.dst = some d := by exact rfl) (hv : vop ⟨mkT t, h, n, u⟩ i.k i.op = v := by conv => lhs; (try simp [hF, mkS, litA, fillA, maxI])) (hp : pop ⟨mkT t, h, n, u⟩ i.k i.op := by simp [hF, mkS, litA, fillA, maxI] <;> fail) : evIs P (i :: is) ⟨mkT t, h, n, u⟩ K :=
  evQ (hq := hq) (hg := hg) (hd := hd) (hv := hv) (hp := hp) (hk := hk)
theorem wF {P : Program} {i : AI} {is : List AI} {t : List (Nat × AV)} {h : Nat → Option Blk} {n : Nat} {u : Nat → Bool} {K : St → Prop} {d : Nat}  {s : Nat} {b : Bool} (hr : evIs P is ⟨mkT ((d, .grd false .undef) :: t), h, n, u⟩ K) (hg : i.g = some (s, b) := by exact rfl) (hd : i.dst = some d := by exact rfl) (hc : gcond ⟨mkT t, h, n, u⟩ s b = false := by simp [hF, mkS, litA, fillA, maxI] <;> fail) (hk : gok ⟨mkT t, h, n, u⟩ s := by simp [hF, mkS, litA, fillA, maxI] <;> fail) : evIs P (i :: is) ⟨mkT t, h, n, u⟩ K :=
  evF (hg := hg) (hd := hd) (hc := hc) (hk := hk) (hr := hr)
theorem wG {P : Program} {i : AI} {is : List AI} {t : List (Nat × AV)} {h : Nat → Option Blk} {n : Nat} {u : Nat → Bool} {K : St → Prop} {d : Nat} {v : AV}  {s : Nat} {b c : Bool} (hr : evIs P is ⟨mkT ((d, .grd c v) :: t), h, n, u⟩ K) (hq : i.op.quiet = true := by exact rfl) (hg : i.g = some (s, b) := by exact rfl) (hd : i.dst = some d := by exact rfl) (hc : gcond ⟨mkT t, h, n, u⟩ s b = c := by conv => lhs; (try simp [hF, mkS, litA, fillA, maxI])) (hv : vop ⟨mkT t, h, n, u⟩ i.k i.op = v := by conv => lhs; (try simp [hF, mkS, litA, fillA, maxI])) (hk : gok ⟨mkT t, h, n, u⟩ s := by simp [hF, mkS, litA, fillA, maxI] <;> fail) (hp : c = true → pop ⟨mkT t, h, n, u⟩ i.k i.op := by simp [hF, mkS, litA, fillA, maxI] <;> fail) : evIs P (i :: is) ⟨mkT t, h, n, u⟩ K :=
  evG (hq := hq) (hg := hg) (hd := hd) (hc := hc) (hv := hv) (hk := hk) (hp := hp) (hr := hr)
theorem wT {P : Program} {i : AI} {is : List AI} {t : List (Nat × AV)} {h : Nat → Option Blk} {n : Nat} {u : Nat → Bool} {K : St → Prop}  {s : Nat} {b : Bool} (hr : evIs P ({ i with g := none } :: is) ⟨mkT t, h, n, u⟩ K) (hg : i.g = some (s, b) := by exact rfl) (hc : gcond ⟨mkT t, h, n, u⟩ s b = true := by simp [hF, mkS, litA, fillA, maxI] <;> fail) (hq : i.op.quiet = false := by exact rfl) (hk : gok ⟨mkT t, h, n, u⟩ s := by simp [hF, mkS, litA, fillA, maxI] <;> fail) : evIs P (i :: is) ⟨mkT t, h, n, u⟩ K :=
  evT1 (hg := hg) (hc := hc) (hq := hq) (hk := hk) (hr := hr)
theorem wZ {P : Program} {i : AI} {is : List AI} {t : List (Nat × AV)} {h : Nat → Option Blk} {n : Nat} {u : Nat → Bool} {K : St → Prop} {d : Nat}  {sz bytes : Nat} {ag : Bool} {z : List CV} {x : AOpr} {blk : Blk} {R : Nat} {y : AV} (hk : evIs P is ⟨mkT ((d, y) :: t), hupd h R (some blk), n, uupd u R⟩ K) (hop : i.op = .mks sz bytes ag z x := by exact rfl) (hg : i.g = none := by exact rfl) (hd : i.dst = some d := by exact rfl) (hR : n + i.k = R := by conv => lhs; (try simp)) (hb : rop ⟨mkT t, h, n, u⟩ i.op = some blk := by conv => lhs; (try simp [hF, mkS, litA, fillA, maxI])) (hv : vop ⟨mkT t, h, n, u⟩ i.k i.op = y := by conv => lhs; (try simp [hF, mkS, litA, fillA, maxI])) (hp : pop ⟨mkT t, h, n, u⟩ i.k i.op := by simp [hF, mkS, litA, fillA, maxI] <;> fail) : evIs P (i :: is) ⟨mkT t, h, n, u⟩ K :=
  evZm (hop := hop) (hg := hg) (hd := hd) (hR := hR) (hb := hb) (hv := hv) (hp := hp) (hk := hk)
theorem wU {P : Program} {i : AI} {is : List AI} {t : List (Nat × AV)} {h : Nat → Option Blk} {n : Nat} {u : Nat → Bool} {K : St → Prop} {d : Nat}  {x : AOpr} {y : AV} (hk : evIs P is ⟨mkT ((d, y) :: t), h, n, u⟩ K) (hop : i.op = .s2b x := by exact rfl) (hg : i.g = none := by exact rfl) (hd : i.dst = some d := by exact rfl) (hv : vop ⟨mkT t, h, n, u⟩ i.k i.op = y := by conv => lhs; (try simp [hF, mkS, litA, fillA, maxI])) (hp : pop ⟨mkT t, h, n, u⟩ i.k i.op := by simp [hF, mkS, litA, fillA, maxI] <;> fail) : evIs P (i :: is) ⟨mkT t, h, n, u⟩ K :=
  evZb (hop := hop) (hg := hg) (hd := hd) (hv := hv) (hp := hp) (hk := hk)
theorem wCp {P : Program} {i : AI} {is : List AI} {t : List (Nat × AV)} {h : Nat → Option Blk} {n : Nat} {u : Nat → Bool} {K : St → Prop} {d : Nat}  {sz : Nat} {x y : AOpr} {X Y : AV} {m : Nat} {h' : Nat → Option Blk} (hk : evIs P is ⟨mkT ((d, .int .i64 m) :: t), h', n, u⟩ K) (hop : i.op = .cpy sz x y := by exact rfl) (hg : i.g = none := by exact rfl) (hd : i.dst = some d := by exact rfl) (hx : St.val ⟨mkT t, h, n, u⟩ x = X := by conv => lhs; (try simp [hF, mkS, litA, fillA, maxI])) (hy : St.val ⟨mkT t, h, n, u⟩ y = Y := by conv => lhs; (try simp [hF, mkS, litA, fillA, maxI])) (hm : cpyN ⟨mkT t, h, n, u⟩ X Y = m := by conv => lhs; (try simp [hF, mkS, litA, fillA, maxI, cpyN, lenOf])) (hh : (cpyS ⟨mkT t, h, n, u⟩ X Y).heap = h' := by conv => lhs; (try simp [hF, mkS, litA, fillA, maxI, cpyS, cpyN, lenOf])) (ox : St.ok ⟨mkT t, h, n, u⟩ x := by simp [hF, mkS, litA, fillA, maxI] <;> fail) (oy : St.ok ⟨mkT t, h, n, u⟩ y := by simp [hF, mkS, litA, fillA, maxI] <;> fail) (hp : cpyOk ⟨mkT t, h, n, u⟩ sz X Y := by simp [hF, mkS, litA, fillA, maxI, cpyOk] <;> fail) : evIs P (i :: is) ⟨mkT t, h, n, u⟩ K :=
  evCpy (hop := hop) (hg := hg) (hd := hd) (hx := hx) (hy := hy) (hm := hm) (hh := hh) (ox := ox) (oy := oy) (hp := hp) (hk := hk)
theorem wCap {P : Program} {i : AI} {is : List AI} {t : List (Nat × AV)} {h : Nat → Option Blk} {n : Nat} {u : Nat → Bool} {K : St → Prop} {d : Nat}  {sz : Nat} {x : AOpr} {X : AV} {V : Nat → AV} {h' : Nat → Nat → Option Blk} (hk : ∀ q : Nat, lenOf X ≤ q → evIs P is ⟨mkT ((d, V q) :: t), h' q, n, u⟩ K) (hop : i.op = .cap sz x := by exact rfl) (hg : i.g = none := by exact rfl) (hd : i.dst = some d := by exact rfl) (hx : St.val ⟨mkT t, h, n, u⟩ x = X := by conv => lhs; (try simp [hF, mkS, litA, fillA, maxI])) (ox : St.ok ⟨mkT t, h, n, u⟩ x := by simp [hF, mkS, litA, fillA, maxI] <;> fail) (hp : capOk ⟨mkT t, h, n, u⟩ sz X := by simp [hF, mkS, litA, fillA, maxI, capOk] <;> fail) (hh : ∀ q, (capS ⟨mkT t, h, n, u⟩ sz X q).heap = h' q := by intro q; conv => lhs; (try simp [hF, mkS, litA, fillA, maxI, capS, slackE])) (hv : ∀ q, capV X q = V q := by intro q; conv => lhs; (try simp [hF, mkS, litA, fillA, maxI, capV])) : evIs P (i :: is) ⟨mkT t, h, n, u⟩ K :=
  evCap (hop := hop) (hg := hg) (hd := hd) (hx := hx) (ox := ox) (hp := hp) (hh := hh) (hv := hv) (hk := hk)
theorem wApz {P : Program} {i : AI} {is : List AI} {t : List (Nat × AV)} {h : Nat → Option Blk} {n : Nat} {u : Nat → Bool} {K : St → Prop} {d : Nat}  {sz bytes R e m : Nat} {ag : Bool} {z : List CV} {s x : AOpr} {S X Y : AV} {h' : Nat → Option Blk} (hk : evIs P is ⟨mkT ((d, .hdr R 0 m) :: t), h', n, uupd u R⟩ K) (hop : i.op = .apz sz bytes ag z s x e := by exact rfl) (hg : i.g = none := by exact rfl) (hd : i.dst = some d := by exact rfl) (hR : n + i.k = R := by conv => lhs; (try simp)) (hs : St.val ⟨mkT t, h, n, u⟩ s = S := by conv => lhs; (try simp [hF, mkS, litA, fillA, maxI])) (hx : St.val ⟨mkT t, h, n, u⟩ x = X := by conv => lhs; (try simp [hF, mkS, litA, fillA, maxI])) (hy : apzX ⟨mkT t, h, n, u⟩ ag z S X = Y := by conv => lhs; (try simp [hF, mkS, litA, fillA, maxI, apzX, partOf, zeroE, closeE, closeV])) (hh : (appS ⟨mkT t, h, n, u⟩ i.k sz (.sl .ext []) Y).heap = h' := by conv => lhs; (try simp [hF, mkS, litA, fillA, maxI, appS])) (hm : lenOf Y = m := by conv => lhs; (try simp [hF, mkS, litA, fillA, maxI, lenOf])) (os : St.ok ⟨mkT t, h, n, u⟩ s := by simp [hF, mkS, litA, fillA, maxI] <;> fail) (ox : St.ok ⟨mkT t, h, n, u⟩ x := by simp [hF, mkS, litA, fillA, maxI] <;> fail) (hp : apzOk ⟨mkT t, h, n, u⟩ i.k sz bytes ag z S X (mkT t e) := by simp [hF, mkS, litA, fillA, maxI, apzOk, closeOk, St.newsOk] <;> fail) : evIs P (i :: is) ⟨mkT t, h, n, u⟩ K :=
  evApz (hop := hop) (hg := hg) (hd := hd) (hR := hR) (hs := hs) (hx := hx) (hy := hy) (hh := hh) (hm := hm) (os := os) (ox := ox) (hp := hp) (hk := hk)
theorem wCp0 {P : Program} {i : AI} {is : List AI} {t : List (Nat × AV)} {h : Nat → Option Blk} {n : Nat} {u : Nat → Bool} {K : St → Prop}  {sz : Nat} {x y : AOpr} {X Y : AV} {h' : Nat → Option Blk} (hk : evIs P is ⟨mkT t, h', n, u⟩ K) (hop : i.op = .cpy sz x y := by exact rfl) (hg : i.g = none := by exact rfl) (hd : i.dst = none := by exact rfl) (hx : St.val ⟨mkT t, h, n, u⟩ x = X := by conv => lhs; (try simp [hF, mkS, litA, fillA, maxI])) (hy : St.val ⟨mkT t, h, n, u⟩ y = Y := by conv => lhs; (try simp [hF, mkS, litA, fillA, maxI])) (hh : (cpyS ⟨mkT t, h, n, u⟩ X Y).heap = h' := by conv => lhs; (try simp [hF, mkS, litA, fillA, maxI, cpyS, cpyN, lenOf])) (ox : St.ok ⟨mkT t, h, n, u⟩ x := by simp [hF, mkS, litA, fillA, maxI] <;> fail) (oy : St.ok ⟨mkT t, h, n, u⟩ y := by simp [hF, mkS, litA, fillA, maxI] <;> fail) (hp : cpyOk ⟨mkT t, h, n, u⟩ sz X Y := by simp [hF, mkS, litA, fillA, maxI, cpyOk] <;> fail) : evIs P (i :: is) ⟨mkT t, h, n, u⟩ K :=
  evCpy0 (hop := hop) (hg := hg) (hd := hd) (hx := hx) (hy := hy) (hh := hh) (ox := ox) (oy := oy) (hp := hp) (hk := hk)
theorem wM {P : Program} {i : AI} {is : List AI} {t : List (Nat × AV)} {h : Nat → Option Blk} {n : Nat} {u : Nat → Bool} {K : St → Prop} {d : Nat}  {blk : Blk} {R : Nat} (hk : evIs P is ⟨mkT ((d, .ptr R 0 0) :: t), hupd h R (some blk), n, uupd u R⟩ K) (hq : (match i.op with | .alloc .. | .box .. => true | _ => false) = true := by exact rfl) (hg : i.g = none := by exact rfl) (hd : i.dst = some d := by exact rfl) (hR : n + i.k = R := by conv => lhs; (try simp)) (hb : rop ⟨mkT t, h, n, u⟩ i.op = some blk := by conv => lhs; (try simp [hF, mkS, litA, fillA, maxI])) (hp : pop ⟨mkT t, h, n, u⟩ i.k i.op := by simp [hF, mkS, litA, fillA, maxI] <;> fail) : evIs P (i :: is) ⟨mkT t, h, n, u⟩ K :=
  evM (hq := hq) (hg := hg) (hd := hd) (hR := hR) (hb := hb) (hp := hp) (hk := hk)
theorem wS {P : Program} {i : AI} {is : List AI} {t : List (Nat × AV)} {h : Nat → Option Blk} {n : Nat} {u : Nat → Bool} {K : St → Prop}  {m : Nat} {ag : Bool} {a x : AOpr} {A X : AV} {h' : Nat → Option Blk} (hk : evIs P is ⟨mkT t, h', n, u⟩ K) (hop : i.op = .store m ag a x := by exact rfl) (hg : i.g = none := by exact rfl) (hd : i.dst = none := by exact rfl) (ha : St.val ⟨mkT t, h, n, u⟩ a = A := by conv => lhs; (try simp [hF, mkS, litA, fillA, maxI])) (hx : St.val ⟨mkT t, h, n, u⟩ x = X := by conv => lhs; (try simp [hF, mkS, litA, fillA, maxI])) (hh : (storeS ⟨mkT t, h, n, u⟩ A X).heap = h' := by conv => lhs; (try simp [hF, mkS, litA, fillA, maxI, storeS, putAt, reCells, usedE])) (oa : St.ok ⟨mkT t, h, n, u⟩ a := by simp [hF, mkS, litA, fillA, maxI] <;> fail) (ox : St.ok ⟨mkT t, h, n, u⟩ x := by simp [hF, mkS, litA, fillA, maxI] <;> fail) (hp : storeOk ⟨mkT t, h, n, u⟩ m ag A X := by simp [hF, mkS, litA, fillA, maxI, storeOk] <;> fail) : evIs P (i :: is) ⟨mkT t, h, n, u⟩ K :=
  evS (hop := hop) (hg := hg) (hd := hd) (ha := ha) (hx := hx) (hh := hh) (oa := oa) (ox := ox) (hp := hp) (hk := hk)
theorem wP {P : Program} {i : AI} {is : List AI} {t : List (Nat × AV)} {h : Nat → Option Blk} {n : Nat} {u : Nat → Bool} {K : St → Prop} {d : Nat}  {sz bytes R : Nat} {s x : AOpr} {S X : AV} {h' : Nat → Option Blk} {m : Nat} (hk : evIs P is ⟨mkT ((d, .hdr R 0 m) :: t), h', n, uupd u R⟩ K) (hop : i.op = .app sz bytes s x := by exact rfl) (hg : i.g = none := by exact rfl) (hd : i.dst = some d := by exact rfl) (hR : n + i.k = R := by conv => lhs; (try simp)) (hs : St.val ⟨mkT t, h, n, u⟩ s = S := by conv => lhs; (try simp [hF, mkS, litA, fillA, maxI])) (hx : St.val ⟨mkT t, h, n, u⟩ x = X := by conv => lhs; (try simp [hF, mkS, litA, fillA, maxI])) (hh : (appS ⟨mkT t, h, n, u⟩ i.k sz S X).heap = h' := by conv => lhs; (try simp [hF, mkS, litA, fillA, maxI, appS])) (hm : (St.olds ⟨mkT t, h, n, u⟩ S).length + (St.news ⟨mkT t, h, n, u⟩ X).length = m := by conv => lhs; (try simp [hF, mkS, litA, fillA, maxI])) (os : St.ok ⟨mkT t, h, n, u⟩ s := by simp [hF, mkS, litA, fillA, maxI] <;> fail) (ox : St.ok ⟨mkT t, h, n, u⟩ x := by simp [hF, mkS, litA, fillA, maxI] <;> fail) (hp : appOk ⟨mkT t, h, n, u⟩ i.k sz bytes S X := by simp [hF, mkS, litA, fillA, maxI, appOk, appS] <;> fail) : evIs P (i :: is) ⟨mkT t, h, n, u⟩ K :=
  evAp (hop := hop) (hg := hg) (hd := hd) (hR := hR) (hs := hs) (hx := hx) (hh := hh) (hm := hm) (os := os) (ox := ox) (hp := hp) (hk := hk)
theorem wJ {P : Program} {i : AI} {is : List AI} {t : List (Nat × AV)} {h : Nat → Option Blk} {n : Nat} {u : Nat → Bool} {K : St → Prop} {d : Nat}  {sz bytes : Nat} {s x : AOpr} {S X V : AV} {h' : Nat → Option Blk} (hk : evIs P is ⟨mkT ((d, V) :: t), h', n, u⟩ K) (hop : i.op = .app sz bytes s x := by exact rfl) (hg : i.g = none := by exact rfl) (hd : i.dst = some d := by exact rfl) (hs : St.val ⟨mkT t, h, n, u⟩ s = S := by conv => lhs; (try simp [hF, mkS, litA, fillA, maxI])) (hx : St.val ⟨mkT t, h, n, u⟩ x = X := by conv => lhs; (try simp [hF, mkS, litA, fillA, maxI])) (hh : (intoS ⟨mkT t, h, n, u⟩ S X).heap = h' := by conv => lhs; (try simp [hF, mkS, litA, fillA, maxI, intoS])) (hm : intoV ⟨mkT t, h, n, u⟩ S X = V := by conv => lhs; (try simp [hF, mkS, litA, fillA, maxI, intoV])) (os : St.ok ⟨mkT t, h, n, u⟩ s := by simp [hF, mkS, litA, fillA, maxI] <;> fail) (ox : St.ok ⟨mkT t, h, n, u⟩ x := by simp [hF, mkS, litA, fillA, maxI] <;> fail) (hp : intoOk ⟨mkT t, h, n, u⟩ sz S X := by simp [hF, mkS, litA, fillA, maxI, intoOk] <;> fail) : evIs P (i :: is) ⟨mkT t, h, n, u⟩ K :=
  evAi (hop := hop) (hg := hg) (hd := hd) (hs := hs) (hx := hx) (hh := hh) (hm := hm) (os := os) (ox := ox) (hp := hp) (hk := hk)
theorem wX {P : Program} {i : AI} {is : List AI} {t : List (Nat × AV)} {h : Nat → Option Blk} {n : Nat} {u : Nat → Bool} {K : St → Prop}  {sz : Nat} {ag : Bool} {z : List CV} {x : AOpr} {X : AV} {h' : Nat → Option Blk} (hk : evIs P is ⟨mkT t, h', n, u⟩ K) (hop : i.op = .clr sz ag z x := by exact rfl) (hg : i.g = none := by exact rfl) (hd : i.dst = none := by exact rfl) (hx : St.val ⟨mkT t, h, n, u⟩ x = X := by conv => lhs; (try simp [hF, mkS, litA, fillA, maxI])) (hh : (clrS ⟨mkT t, h, n, u⟩ ag z X).heap = h' := by conv => lhs; (try simp [hF, mkS, litA, fillA, maxI, clrS, zeroE, closeE, closeV])) (ox : St.ok ⟨mkT t, h, n, u⟩ x := by simp [hF, mkS, litA, fillA, maxI] <;> fail) (hp : clrOk ⟨mkT t, h, n, u⟩ sz ag z X := by simp [hF, mkS, litA, fillA, maxI, clrOk, closeOk] <;> fail) : evIs P (i :: is) ⟨mkT t, h, n, u⟩ K :=
  evX (hop := hop) (hg := hg) (hd := hd) (hx := hx) (hh := hh) (ox := ox) (hp := hp) (hk := hk)
theorem wY {P : Program} {i : AI} {is : List AI} {t : List (Nat × AV)} {h : Nat → Option Blk} {n : Nat} {u : Nat → Bool} {K : St → Prop} {d : Nat}  {x l b m : AOpr} (hk : evIs P is ⟨mkT ((d, .undef) :: t), h, n, u⟩ K) (hop : i.op = .slm x l b m := by exact rfl) (hg : i.g = none := by exact rfl) (hd : i.dst = some d := by exact rfl) (hp : slmOk ⟨mkT t, h, n, u⟩ x l b m := by simp [hF, mkS, litA, fillA, maxI, slmOk, roomOf] <;> fail) : evIs P (i :: is) ⟨mkT t, h, n, u⟩ K :=
  evY (hop := hop) (hg := hg) (hd := hd) (hp := hp) (hk := hk)
theorem wL  {P : Program} {i : AI} {is : List AI} {t : List (Nat × AV)} {h : Nat → Option Blk} {n : Nat} {u : Nat → Bool} {K : St → Prop} {d : Nat} {f : Nat} {args : List AOpr} {vs : List AV} {H0 : List (Nat × Blk)} {N : Nat} {Q : List (Nat × Blk) → Nat → AV → Prop} (hk : ∀ H1 n' r, Q H1 n' r → evIs P is ⟨mkT ((d, r) :: t), over H0 H1 h, n, fun q => u q || (decide (N ≤ q) && decide (q < n'))⟩ K) (hop : i.op = .call f args := by exact rfl) (hg : i.g = none := by exact rfl) (hd : i.dst = some d := by exact rfl) (hvs : args.map (St.val ⟨mkT t, h, n, u⟩) = vs := by conv => lhs; (try simp [hF, mkS, litA, fillA, maxI])) (hA : BCall P f H0 N vs Q) (ho : ∀ x ∈ args, St.ok ⟨mkT t, h, n, u⟩ x := by simp [hF, mkS, litA, fillA, maxI] <;> fail) (hH : ∀ p ∈ H0, h p.1 = some p.2 := by simp [hF, mkS, litA, fillA, maxI] <;> fail) (hN : ∀ r, u r = true → r < N := by intro q hq; first | (simp [hF, mkS, litA, fillA, maxI] at hq; done) | (simp [hF, mkS, litA, fillA, maxI] at hq; omega)) : evIs P (i :: is) ⟨mkT t, h, n, u⟩ K :=
  evL (hop := hop) (hg := hg) (hd := hd) (hvs := hvs) (hA := hA) (ho := ho) (hH := hH) (hN := hN) (hk := hk)
theorem wL0  {P : Program} {i : AI} {is : List AI} {t : List (Nat × AV)} {h : Nat → Option Blk} {n : Nat} {u : Nat → Bool} {K : St → Prop} {f : Nat} {args : List AOpr} {vs : List AV} {H0 : List (Nat × Blk)} {N : Nat} {Q : List (Nat × Blk) → Nat → AV → Prop} (hk : ∀ H1 n' r, Q H1 n' r → evIs P is ⟨mkT t, over H0 H1 h, n, fun q => u q || (decide (N ≤ q) && decide (q < n'))⟩ K) (hop : i.op = .call f args := by exact rfl) (hg : i.g = none := by exact rfl) (hd : i.dst = none := by exact rfl) (hvs : args.map (St.val ⟨mkT t, h, n, u⟩) = vs := by conv => lhs; (try simp [hF, mkS, litA, fillA, maxI])) (hA : BCall P f H0 N vs Q) (ho : ∀ x ∈ args, St.ok ⟨mkT t, h, n, u⟩ x := by simp [hF, mkS, litA, fillA, maxI] <;> fail) (hH : ∀ p ∈ H0, h p.1 = some p.2 := by simp [hF, mkS, litA, fillA, maxI] <;> fail) (hN : ∀ r, u r = true → r < N := by intro q hq; first | (simp [hF, mkS, litA, fillA, maxI] at hq; done) | (simp [hF, mkS, litA, fillA, maxI] at hq; omega)) : evIs P (i :: is) ⟨mkT t, h, n, u⟩ K :=
  evL0 (hop := hop) (hg := hg) (hd := hd) (hvs := hvs) (hA := hA) (ho := ho) (hH := hH) (hN := hN) (hk := hk)
theorem wLv  {P : Program} {i : AI} {is : List AI} {t : List (Nat × AV)} {h : Nat → Option Blk} {n : Nat} {u : Nat → Bool} {K : St → Prop} {d : Nat} {f : Nat} {x : AOpr} {caps : List AV} {args : List AOpr} {vs : List AV} {H0 : List (Nat × Blk)} {N : Nat} {Q : List (Nat × Blk) → Nat → AV → Prop} (hk : ∀ H1 n' r, Q H1 n' r → evIs P is ⟨mkT ((d, r) :: t), over H0 H1 h, n, fun q => u q || (decide (N ≤ q) && decide (q < n'))⟩ K) (hop : i.op = .callv x args := by exact rfl) (hg : i.g = none := by exact rfl) (hd : i.dst = some d := by exact rfl) (hx : St.val ⟨mkT t, h, n, u⟩ x = .fn f caps := by conv => lhs; (try simp [hF, mkS, litA, fillA, maxI])) (hvs : args.map (St.val ⟨mkT t, h, n, u⟩) ++ caps = vs := by conv => lhs; (try simp [hF, mkS, litA, fillA, maxI])) (hA : BCall P f H0 N vs Q) (hox : St.ok ⟨mkT t, h, n, u⟩ x := by simp [hF, mkS, litA, fillA, maxI] <;> fail) (ho : ∀ x ∈ args, St.ok ⟨mkT t, h, n, u⟩ x := by simp [hF, mkS, litA, fillA, maxI] <;> fail) (hH : ∀ p ∈ H0, h p.1 = some p.2 := by simp [hF, mkS, litA, fillA, maxI] <;> fail) (hN : ∀ r, u r = true → r < N := by intro q hq; first | (simp [hF, mkS, litA, fillA, maxI] at hq; done) | (simp [hF, mkS, litA, fillA, maxI] at hq; omega)) : evIs P (i :: is) ⟨mkT t, h, n, u⟩ K :=
  evLv (hop := hop) (hg := hg) (hd := hd) (hx := hx) (hvs := hvs) (hA := hA) (hox := hox) (ho := ho) (hH := hH) (hN := hN) (hk := hk)
theorem wLv0  {P : Program} {i : AI} {is : List AI} {t : List (Nat × AV)} {h : Nat → Option Blk} {n : Nat} {u : Nat → Bool} {K : St → Prop} {f : Nat} {x : AOpr} {caps : List AV} {args : List AOpr} {vs : List AV} {H0 : List (Nat × Blk)} {N : Nat} {Q : List (Nat × Blk) → Nat → AV → Prop} (hk : ∀ H1 n' r, Q H1 n' r → evIs P is ⟨mkT t, over H0 H1 h, n, fun q => u q || (decide (N ≤ q) && decide (q < n'))⟩ K) (hop : i.op = .callv x args := by exact rfl) (hg : i.g = none := by exact rfl) (hd : i.dst = none := by exact rfl) (hx : St.val ⟨mkT t, h, n, u⟩ x = .fn f caps := by conv => lhs; (try simp [hF, mkS, litA, fillA, maxI])) (hvs : args.map (St.val ⟨mkT t, h, n, u⟩) ++ caps = vs := by conv => lhs; (try simp [hF, mkS, litA, fillA, maxI])) (hA : BCall P f H0 N vs Q) (hox : St.ok ⟨mkT t, h, n, u⟩ x := by simp [hF, mkS, litA, fillA, maxI] <;> fail) (ho : ∀ x ∈ args, St.ok ⟨mkT t, h, n, u⟩ x := by simp [hF, mkS, litA, fillA, maxI] <;> fail) (hH : ∀ p ∈ H0, h p.1 = some p.2 := by simp [hF, mkS, litA, fillA, maxI] <;> fail) (hN : ∀ r, u r = true → r < N := by intro q hq; first | (simp [hF, mkS, litA, fillA, maxI] at hq; done) | (simp [hF, mkS, litA, fillA, maxI] at hq; omega)) : evIs P (i :: is) ⟨mkT t, h, n, u⟩ K :=
  evLv0 (hop := hop) (hg := hg) (hd := hd) (hx := hx) (hvs := hvs) (hA := hA) (hox := hox) (ho := ho) (hH := hH) (hN := hN) (hk := hk)
theorem wLm0  {P : Program} {i : AI} {is : List AI} {t : List (Nat × AV)} {h : Nat → Option Blk} {n : Nat} {u : Nat → Bool} {K : St → Prop} {f : Nat} {x : AOpr} {caps : List AV} {args : List AOpr} {vs : List AV} {H0 : List (Nat × Blk)} {N : Nat} {Q : List (Nat × Blk) → Nat → AV → Prop} (hk : ∀ H1 n' r, Q H1 n' r → evIs P is ⟨mkT t, over H0 H1 h, n, fun q => u q || (decide (N ≤ q) && decide (q < n'))⟩ K) (hop : i.op = .callv x args := by exact rfl) (hg : i.g = none := by exact rfl) (hd : i.dst = none := by exact rfl) (hx : St.val ⟨mkT t, h, n, u⟩ x = .mfn f caps := by conv => lhs; (try simp [hF, mkS, litA, fillA, maxI])) (hvs : caps ++ args.map (St.val ⟨mkT t, h, n, u⟩) = vs := by conv => lhs; (try simp [hF, mkS, litA, fillA, maxI])) (hA : BCall P f H0 N vs Q) (hox : St.ok ⟨mkT t, h, n, u⟩ x := by simp [hF, mkS, litA, fillA, maxI] <;> fail) (ho : ∀ x ∈ args, St.ok ⟨mkT t, h, n, u⟩ x := by simp [hF, mkS, litA, fillA, maxI] <;> fail) (hH : ∀ p ∈ H0, h p.1 = some p.2 := by simp [hF, mkS, litA, fillA, maxI] <;> fail) (hN : ∀ r, u r = true → r < N := by intro q hq; first | (simp [hF, mkS, litA, fillA, maxI] at hq; done) | (simp [hF, mkS, litA, fillA, maxI] at hq; omega)) : evIs P (i :: is) ⟨mkT t, h, n, u⟩ K :=
  evLm0 (hop := hop) (hg := hg) (hd := hd) (hx := hx) (hvs := hvs) (hA := hA) (hox := hox) (ho := ho) (hH := hH) (hN := hN) (hk := hk)
theorem wC {P : Program} {i : AI} {is : List AI} {t : List (Nat × AV)} {h : Nat → Option Blk} {n : Nat} {u : Nat → Bool} {K : St → Prop} {d : Nat}  {f : Nat} {args : List AOpr} {vs vs' : List AV} {r r' : AV} (hk : evIs P is ⟨mkT ((d, r') :: t), h, n, u⟩ K) (hop : i.op = .call f args := by exact rfl) (hg : i.g = none := by exact rfl) (hd : i.dst = some d := by exact rfl) (had : i.ad = false := by exact rfl) (hvs : args.map (St.val ⟨mkT t, h, n, u⟩) = vs := by conv => lhs; (try simp [hF, mkS, litA, fillA, maxI])) (hvs' : vs.map (fzA h) = vs' := by conv => lhs; (try simp [hF, mkS, litA, fillA, maxI, fzB, fzQ])) (hA : ACall P f vs' (· = r)) (hr : clC r = r' := by conv => lhs; (try simp [hF, mkS, litA, fillA, maxI, fzB, fzQ])) (ho : ∀ x ∈ args, St.ok ⟨mkT t, h, n, u⟩ x := by simp [hF, mkS, litA, fillA, maxI] <;> fail) (hcl : okAs noF noF vs ∨ (okAs (okB h) (okQ h) vs ∧ sc r = true) := by simp [hF, mkS, litA, fillA, maxI, okB, okQ, noF, sc, scs] <;> fail) : evIs P (i :: is) ⟨mkT t, h, n, u⟩ K :=
  evC (hop := hop) (hg := hg) (hd := hd) (had := had) (hvs := hvs) (hvs' := hvs') (hA := hA) (hr := hr) (ho := ho) (hcl := hcl) (hk := hk)
theorem wV {P : Program} {i : AI} {is : List AI} {t : List (Nat × AV)} {h : Nat → Option Blk} {n : Nat} {u : Nat → Bool} {K : St → Prop} {d : Nat}  {f : Nat} {x : AOpr} {caps : List AV} {args : List AOpr} {vs vs' : List AV} {r r' : AV} (hk : evIs P is ⟨mkT ((d, r') :: t), h, n, u⟩ K) (hop : i.op = .callv x args := by exact rfl) (hg : i.g = none := by exact rfl) (hd : i.dst = some d := by exact rfl) (had : i.ad = false := by exact rfl) (hx : St.val ⟨mkT t, h, n, u⟩ x = .fn f caps := by conv => lhs; (try simp [hF, mkS, litA, fillA, maxI])) (hvs : args.map (St.val ⟨mkT t, h, n, u⟩) ++ caps = vs := by conv => lhs; (try simp [hF, mkS, litA, fillA, maxI])) (hvs' : vs.map (fzA h) = vs' := by conv => lhs; (try simp [hF, mkS, litA, fillA, maxI, fzB, fzQ])) (hA : ACall P f vs' (· = r)) (hr : clC r = r' := by conv => lhs; (try simp [hF, mkS, litA, fillA, maxI, fzB, fzQ])) (hox : St.ok ⟨mkT t, h, n, u⟩ x := by simp [hF, mkS, litA, fillA, maxI] <;> fail) (ho : ∀ x ∈ args, St.ok ⟨mkT t, h, n, u⟩ x := by simp [hF, mkS, litA, fillA, maxI] <;> fail) (hcl : okAs noF noF vs ∨ (okAs (okB h) (okQ h) vs ∧ sc r = true) := by simp [hF, mkS, litA, fillA, maxI, okB, okQ, noF, sc, scs] <;> fail) : evIs P (i :: is) ⟨mkT t, h, n, u⟩ K :=
  evCv (hop := hop) (hg := hg) (hd := hd) (had := had) (hx := hx) (hvs := hvs) (hvs' := hvs') (hA := hA) (hr := hr) (hox := hox) (ho := ho) (hcl := hcl) (hk := hk)
theorem wA {P : Program} {i : AI} {is : List AI} {t : List (Nat × AV)} {h : Nat → Option Blk} {n : Nat} {u : Nat → Bool} {K : St → Prop} {d : Nat}  {f sz R : Nat} {args : List AOpr} {vs vs' xs : List AV} (hk : evIs P is ⟨mkT ((d, .hdr R 0 xs.length) :: t), hupd h R (some ⟨sz, false, xs⟩), n, uupd u R⟩ K) (hop : i.op = .call f args := by exact rfl) (hg : i.g = none := by exact rfl) (hd : i.dst = some d := by exact rfl) (had : i.ad = true := by exact rfl) (hR : n + i.k = R := by conv => lhs; (try simp)) (hvs : args.map (St.val ⟨mkT t, h, n, u⟩) = vs := by conv => lhs; (try simp [hF, mkS, litA, fillA, maxI])) (hvs' : vs.map (fzA h) = vs' := by conv => lhs; (try simp [hF, mkS, litA, fillA, maxI, fzB, fzQ])) (hA : ACall P f vs' (· = .sl (.own sz) xs)) (ho : ∀ x ∈ args, St.ok ⟨mkT t, h, n, u⟩ x := by simp [hF, mkS, litA, fillA, maxI] <;> fail) (hcl : okAs noF noF vs ∨ (okAs (okB h) (okQ h) vs ∧ scs xs = true) := by simp [hF, mkS, litA, fillA, maxI, okB, okQ, noF, sc, scs] <;> fail) (hu : u R = false := by simp [hF, mkS, litA, fillA, maxI] <;> fail) (hz : 0 < sz := by simp [hF, mkS, litA, fillA, maxI] <;> fail) : evIs P (i :: is) ⟨mkT t, h, n, u⟩ K :=
  evCa (hop := hop) (hg := hg) (hd := hd) (had := had) (hR := hR) (hvs := hvs) (hvs' := hvs') (hA := hA) (ho := ho) (hcl := hcl) (hu := hu) (hz := hz) (hk := hk)
theorem wB  {P : Program} {i : AI} {is : List AI} {t : List (Nat × AV)} {h : Nat → Option Blk} {n : Nat} {u : Nat → Bool} {K : St → Prop} {d : Nat} {f : Nat} {args : List AOpr} {vs vs' : List AV} {B : Bool → Prop} (hk : ∀ b, B b → evIs P is ⟨mkT ((d, .bool b) :: t), h, n, u⟩ K) (hop : i.op = .call f args := by exact rfl) (hg : i.g = none := by exact rfl) (hd : i.dst = some d := by exact rfl) (had : i.ad = false := by exact rfl) (hvs : args.map (St.val ⟨mkT t, h, n, u⟩) = vs := by conv => lhs; (try simp [hF, mkS, litA, fillA, maxI])) (hvs' : vs.map (fzA h) = vs' := by conv => lhs; (try simp [hF, mkS, litA, fillA, maxI, fzB, fzQ])) (hA : ACall P f vs' (fun r => ∃ b, r = .bool b ∧ B b)) (ho : ∀ x ∈ args, St.ok ⟨mkT t, h, n, u⟩ x := by simp [hF, mkS, litA, fillA, maxI] <;> fail) (hcl : okAs noF noF vs ∨ okAs (okB h) (okQ h) vs := by simp [hF, mkS, litA, fillA, maxI, okB, okQ, noF, sc, scs] <;> fail) : evIs P (i :: is) ⟨mkT t, h, n, u⟩ K :=
  evCb (hop := hop) (hg := hg) (hd := hd) (had := had) (hvs := hvs) (hvs' := hvs') (hA := hA) (ho := ho) (hcl := hcl) (hk := hk)
theorem wI  {P : Program} {i : AI} {is : List AI} {t : List (Nat × AV)} {h : Nat → Option Blk} {n : Nat} {u : Nat → Bool} {K : St → Prop} {d : Nat} {f : Nat} {args : List AOpr} {vs vs' : List AV} {B : Int → Prop} (hk : ∀ b, B b → evIs P is ⟨mkT ((d, AV.int .i64 b) :: t), h, n, u⟩ K) (hop : i.op = .call f args := by exact rfl) (hg : i.g = none := by exact rfl) (hd : i.dst = some d := by exact rfl) (had : i.ad = false := by exact rfl) (hvs : args.map (St.val ⟨mkT t, h, n, u⟩) = vs := by conv => lhs; (try simp [hF, mkS, litA, fillA, maxI])) (hvs' : vs.map (fzA h) = vs' := by conv => lhs; (try simp [hF, mkS, litA, fillA, maxI, fzB, fzQ])) (hA : ACall P f vs' (fun r => ∃ b, r = AV.int .i64 b ∧ B b)) (ho : ∀ x ∈ args, St.ok ⟨mkT t, h, n, u⟩ x := by simp [hF, mkS, litA, fillA, maxI] <;> fail) (hcl : okAs noF noF vs ∨ okAs (okB h) (okQ h) vs := by simp [hF, mkS, litA, fillA, maxI, okB, okQ, noF, sc, scs] <;> fail) : evIs P (i :: is) ⟨mkT t, h, n, u⟩ K :=
  evCi (hop := hop) (hg := hg) (hd := hd) (had := had) (hvs := hvs) (hvs' := hvs') (hA := hA) (ho := ho) (hcl := hcl) (hk := hk)
theorem wD1  {P : Program} {is : List AI} {ws : List (Nat × List Nat)} {i : Nat} {ii : AI} {s : Sch} {l : List Nat} {st : St} {K : St → Prop} (h : evIs P [ii] st (fun st' => rechecks is st' l ∧ evT P is ws s st' K)) (hi : is[i]? = some ii := by exact rfl) (hg : ii.g = none := by exact rfl) (hl : wsOf ws i = l := by exact rfl) : evT P is ws (.take i s) st K :=
  evD1 (hi := hi) (hg := hg) (hl := hl) (h := h)
theorem wD2  {P : Program} {is : List AI} {ws : List (Nat × List Nat)} {i : Nat} {ii : AI} {s : Sch} {l : List Nat} {st : St} {K : St → Prop} (h : evIs P [ii] st (fun st' => rechecks is st' l ∧ evT P is ws s st' K)) (hi : is[i]? = some ii := by exact rfl) (hg : ii.g = none := by exact rfl) (hl : wsOf ws i = l := by exact rfl) : evT P is ws (.one i s) st K :=
  evD2 (hi := hi) (hg := hg) (hl := hl) (h := h)
theorem wE1  {P : Program} {is : List AI} {ws : List (Nat × List Nat)} {i : Nat} {ii : AI} {s : Sch} {l : List Nat} {st : St} {K : St → Prop} {g : Nat} {b : Bool} (h : evIs P [ii] st (fun st' => rechecks is st' l ∧ evT P is ws s st' K)) (hi : is[i]? = some ii := by exact rfl) (hg : ii.g = some (g, b) := by exact rfl) (hl : wsOf ws i = l := by exact rfl) (hc : gcond st g b = true := by simp [hF, mkS, litA, fillA, maxI] <;> fail) : evT P is ws (.take i s) st K :=
  evD1g (hi := hi) (hg := hg) (hl := hl) (hc := hc) (h := h)
theorem wE2  {P : Program} {is : List AI} {ws : List (Nat × List Nat)} {i : Nat} {ii : AI} {s : Sch} {l : List Nat} {st : St} {K : St → Prop} {g : Nat} {b : Bool} (h : evIs P [ii] st (fun st' => rechecks is st' l ∧ evT P is ws s st' K)) (hi : is[i]? = some ii := by exact rfl) (hg : ii.g = some (g, b) := by exact rfl) (hl : wsOf ws i = l := by exact rfl) (hc : gcond st g b = true := by simp [hF, mkS, litA, fillA, maxI] <;> fail) : evT P is ws (.one i s) st K :=
  evD2g (hi := hi) (hg := hg) (hl := hl) (hc := hc) (h := h)
theorem wE3  {P : Program} {is : List AI} {ws : List (Nat × List Nat)} {i : Nat} {ii : AI} {s : Sch} {l : List Nat} {t : List (Nat × AV)} {h : Nat → Option Blk} {n : Nat} {u : Nat → Bool} {K : St → Prop} {d g : Nat} {b : Bool} (hr : ∀ X, evIs P [] ⟨mkT ((d, .grd false X) :: t), h, n, u⟩ (fun st' => rechecks is st' l ∧ evT P is ws s st' K)) (hi : is[i]? = some ii := by exact rfl) (hg : ii.g = some (g, b) := by exact rfl) (hl : wsOf ws i = l := by exact rfl) (hq : ii.op.quiet = true := by exact rfl) (hd : ii.dst = some d := by exact rfl) (hc : gcond ⟨mkT t, h, n, u⟩ g b = false := by simp [hF, mkS, litA, fillA, maxI] <;> fail) (hk : gok ⟨mkT t, h, n, u⟩ g := by simp [hF, mkS, litA, fillA, maxI] <;> fail) : evT P is ws (.take i s) ⟨mkT t, h, n, u⟩ K :=
  evD1f (hi := hi) (hg := hg) (hl := hl) (hq := hq) (hd := hd) (hc := hc) (hk := hk) (hr := hr)
theorem wE4  {P : Program} {is : List AI} {ws : List (Nat × List Nat)} {i : Nat} {ii : AI} {s : Sch} {l : List Nat} {t : List (Nat × AV)} {h : Nat → Option Blk} {n : Nat} {u : Nat → Bool} {K : St → Prop} {d g : Nat} {b : Bool} (hr : ∀ X, evIs P [] ⟨mkT ((d, .grd false X) :: t), h, n, u⟩ (fun st' => rechecks is st' l ∧ evT P is ws s st' K)) (hi : is[i]? = some ii := by exact rfl) (hg : ii.g = some (g, b) := by exact rfl) (hl : wsOf ws i = l := by exact rfl) (hq : ii.op.quiet = true := by exact rfl) (hd : ii.dst = some d := by exact rfl) (hc : gcond ⟨mkT t, h, n, u⟩ g b = false := by simp [hF, mkS, litA, fillA, maxI] <;> fail) (hk : gok ⟨mkT t, h, n, u⟩ g := by simp [hF, mkS, litA, fillA, maxI] <;> fail) : evT P is ws (.one i s) ⟨mkT t, h, n, u⟩ K :=
  evD2f (hi := hi) (hg := hg) (hl := hl) (hq := hq) (hd := hd) (hc := hc) (hk := hk) (hr := hr)
theorem wN  {P : Program} {is : List AI} {ws : List (Nat × List Nat)} {s : Sch} {l : List Nat} {st : St} {K : St → Prop} (h : evT P is ws s st K) (hr : rechecks is st l := by first | exact trivial | (simp [hF, mkS, litA, fillA, maxI, wsOf, List.lookup, rechecks, recheck, ok1, val1] <;> fail)) : evIs P [] st (fun st' => rechecks is st' l ∧ evT P is ws s st' K) :=
  evN (hr := hr) (h := h)
end Go.Amb

set_option linter.unusedVariables false
namespace Go.Amb
open Go
theorem wct {P : Program} {n : Nat} {st : St} {cx : AOpr} {x y : ACode} {Q : AE → St → Prop} (h : AW P n x st Q) (ho : st.ok cx := by simp [hF] <;> fail) (hv : st.val cx = .bool true := by simp [hF] <;> fail) : AW P n (.cond cx x y) st Q := AW.condT ho hv h
theorem wcf {P : Program} {n : Nat} {st : St} {cx : AOpr} {x y : ACode} {Q : AE → St → Prop} (h : AW P n y st Q) (ho : st.ok cx := by simp [hF] <;> fail) (hv : st.val cx = .bool false := by simp [hF] <;> fail) : AW P n (.cond cx x y) st Q := AW.condF ho hv h
theorem wsq {P : Program} {n : Nat} {x y : ACode} {st : St} {Q : AE → St → Prop} (h : AW P n x st (thenQ (fun s => AW P n y s Q) Q)) : AW P n (.seq x y) st Q := AW.seq h
end Go.Amb

set_option linter.unusedSimpArgs false
set_option linter.unusedVariables false
namespace Go.Amb
open Go Go.RowKit

theorem RootRel.less {w : World} {O O' : Nat → Prop} {B : Nat} {pl : Pls} {r : Nat} {blk : Blk} {f : List Nat} (h : RootRel w O B pl r blk f) (hO : ∀ b, b < w.heap.size → ¬ O b → ¬ O' b) : RootRel w O' B pl r blk f := by
  cases h with
  | emp h he hz => exact .emp h he hz
  | blk h hr hl hz hu h1 hn hc ha => exact .blk h hr hl hz hu h1 hn (hc.shift (fun _ _ _ => rfl) (Nat.le_refl _) hO _ (fun _ _ h => h)) ha

theorem Fit.freeze {t : List (Nat × AV)} {h : Nat → Option Blk} {n : Nat} {u : Nat → Bool} {d r off len : Nat} {b : Blk} (hd : mkT t d = .hdr r off len) (hb : h r = some b) (hbox : b.box = false) (hle : off + len ≤ b.es.length) :
    Fit ⟨mkT t, h, n, u⟩ ⟨mkT ((d, .sl .fro (((b.es.drop off).take len).map clC)) :: t), hupd h r none, n, u⟩ := by
  rintro E a w ⟨pl, fp, hR⟩
  generalize hst : (⟨mkT t, h, n, u⟩ : St) = st at hR
  generalize hst' : (⟨mkT ((d, .sl .fro (((b.es.drop off).take len).map clC)) :: t), hupd h r none, n, u⟩ : St) = st'
  have hh : st.heap = h := by rw [← hst]
  have hh' : st'.heap = hupd h r none := by rw [← hst']
  have hlr : (st.heap r).isSome = true := by rw [hh, hb]; rfl
  have live : ∀ q, (st'.heap q).isSome = true → q ≠ r ∧ (st.heap q).isSome = true := by
    intro q hq
    rw [hh'] at hq
    unfold hupd at hq
    split at hq
    · simp at hq
    · rename_i hne; exact ⟨hne, by rw [hh]; exact hq⟩
  have hO : ∀ x, x < w.heap.size → ¬ Own E st fp x → ¬ Own E st' fp x := by
    intro x _ hn' ho
    rcases ho with ho | ⟨q, hq, hx⟩
    · exact hn' (.inl ho)
    · exact hn' (.inr ⟨q, (live q hq).2, hx⟩)
  refine ⟨pl, fp, ?_⟩
  have hu : st'.us = st.us := by rw [← hst, ← hst']
  constructor
  · exact hR.size
  · exact hR.defers
  · exact hR.plx
  · intro q hq; rw [hu] at hq; exact hR.unused q hq
  · intro q hq; rw [hu]; exact hR.used q (live q hq).2
  · intro q hq; rw [hu]; exact hR.usnb q hq
  · intro q blk hq
    obtain ⟨hne, _⟩ := live q (by rw [hq]; rfl)
    have hq' : st.heap q = some blk := by
      rw [hh'] at hq
      unfold hupd at hq
      rw [if_neg hne] at hq
      rw [hh]; exact hq
    exact (hR.roots q blk hq').less hO
  · intro q hq; exact hR.nodup q (live q hq).2
  · intro q hq; exact hR.own q (live q hq).2
  · intro q q' x hq hq'; exact hR.disj q q' x (live q hq).2 (live q' hq').2
  · exact hR.xold
  · exact hR.gold
  · intro k hk
    by_cases hkd : k = d
    · subst hkd
      have htk : st.tmp k = .hdr r off len := by rw [← hst]; exact hd
      obtain ⟨v, hv1, hv2⟩ := hR.tmps k (by rw [htk]; simp)
      rw [htk] at hv2
      have hc : closeOk st.heap (.hdr r off len) := by
        simp only [closeOk, hh, hb]
        exact ⟨hbox, hle⟩
      obtain ⟨f, h1, _, h3⟩ := close1 hR hv2 hc
      have h2 := map_vals (fh := nilF) (fq := nilF) (oh := noF) (oq := noF) (pl0 := noPl) (O' := Own E st' fp) (B' := E.w0.heap.size) nilF_one nilF_one (fun _ _ _ _ h => h.elim) (fun _ _ _ _ h => h.elim) hO h1 (.inr rfl) (by
        intro x hx ho
        obtain ⟨q, hq, _, hxq⟩ := h3 x hx
        simp only [usedV, List.mem_singleton] at hq
        subst hq
        rcases ho with ho | ⟨q', hq', hx'⟩
        · exact (hR.own q hlr x hxq).2.2 ho
        · exact hR.disj q q' x hlr (live q' hq').2 (fun e => (live q' hq').1 e.symm) hxq hx')
      refine ⟨v, hv1, ?_⟩
      have e : st'.tmp k = .sl .fro (((b.es.drop off).take len).map clC) := by rw [← hst']; simp
      rw [e]
      simp only [closeV, hh, hb, mapAs, mapA] at h2
      have h4 := h2.shift (w' := w) (O' := Own E st' fp) (B' := E.w0.heap.size) (fun _ _ _ => rfl) (Nat.le_refl _) (fun _ _ h => h) pl (fun _ _ h => by cases h)
      simpa [mapAs_eq, clC] using h4
    · have e : st'.tmp k = st.tmp k := by rw [← hst, ← hst']; simp [hkd]
      rw [e] at hk ⊢
      obtain ⟨v, hv1, hv2⟩ := hR.tmps k hk
      exact ⟨v, hv1, hv2.shift (fun _ _ _ => rfl) (Nat.le_refl _) hO _ (fun _ _ h => h)⟩
  · exact hR.keeps
end Go.Amb
