/- Integers of 64 bits: signs, sums, products; in plain Lean. -/
import Derived.Test.YtcccedmhlennmaaDoorA1
import Derived.IntWalk
import GoSem.Claim

set_option linter.unusedSimpArgs false
set_option linter.unusedVariables false
namespace Go.Ops
open Go Go.Amb Go.IntWalk

def okr (n : Int) : Prop := -9223372036854775808 ≤ n ∧ n ≤ 9223372036854775807
instance (n : Int) : Decidable (okr n) := inferInstanceAs (Decidable (_ ∧ _))
theorem w64 (x : Int) : IntKind.i64.wrap x = (x + 9223372036854775808) % 18446744073709551616 - 9223372036854775808 := by
  rw [IntKind.wrap_i64]
theorem bits64 : IntKind.i64.bits = 64 := rfl
theorem top_bit {m : Nat} (h : m < 18446744073709551616) : m.testBit 63 = decide (9223372036854775808 ≤ m) := by
  rw [Nat.testBit_eq_decide_div_mod_eq]
  congr 1
  apply propext
  omega
theorem top_xor {m n : Nat} (hm : m < 18446744073709551616) (hn : n < 18446744073709551616) : 9223372036854775808 ≤ m ^^^ n ↔ ¬ (9223372036854775808 ≤ m ↔ 9223372036854775808 ≤ n) := by
  have hx : m ^^^ n < 2 ^ 64 := Nat.xor_lt_two_pow hm hn
  have h := Nat.testBit_xor m n 63
  rw [top_bit hx, top_bit hm, top_bit hn] at h
  by_cases h1 : 9223372036854775808 ≤ m <;> by_cases h2 : 9223372036854775808 ≤ n <;> simp [h1, h2] at h ⊢ <;> omega
theorem top_and {m n : Nat} (hm : m < 18446744073709551616) (hn : n < 18446744073709551616) : 9223372036854775808 ≤ m &&& n ↔ (9223372036854775808 ≤ m ∧ 9223372036854775808 ≤ n) := by
  have hx : m &&& n < 2 ^ 64 := Nat.and_lt_two_pow m hn
  have h := Nat.testBit_and m n 63
  rw [top_bit hx, top_bit hm, top_bit hn] at h
  by_cases h1 : 9223372036854775808 ≤ m <;> by_cases h2 : 9223372036854775808 ≤ n <;> simp [h1, h2] at h ⊢ <;> omega
def xorI (a b : Int) : Int := IntKind.i64.wrap ((((a % 2 ^ IntKind.i64.bits).toNat ^^^ (b % 2 ^ IntKind.i64.bits).toNat : Nat)) : Int)
def andI (a b : Int) : Int := IntKind.i64.wrap ((((a % 2 ^ IntKind.i64.bits).toNat &&& (b % 2 ^ IntKind.i64.bits).toNat : Nat)) : Int)
theorem mod_top {a : Int} (h : okr a) : (9223372036854775808 ≤ (a % 2 ^ IntKind.i64.bits).toNat ↔ a < 0) ∧ (a % 2 ^ IntKind.i64.bits).toNat < 18446744073709551616 := by
  obtain ⟨h1, h2⟩ := h
  simp only [bits64]
  omega
theorem wrap_top {m : Nat} (h : m < 18446744073709551616) : (IntKind.i64.wrap (m : Int) < 0 ↔ 9223372036854775808 ≤ m) ∧ okr (IntKind.i64.wrap (m : Int)) := by
  rw [w64]
  unfold okr
  omega
theorem xor_neg {a b : Int} (ha : okr a) (hb : okr b) : (xorI a b < 0 ↔ ¬ (a < 0 ↔ b < 0)) ∧ okr (xorI a b) := by
  obtain ⟨a1, a2⟩ := mod_top ha
  obtain ⟨b1, b2⟩ := mod_top hb
  obtain ⟨w1, w2⟩ := wrap_top (m := (a % 2 ^ IntKind.i64.bits).toNat ^^^ (b % 2 ^ IntKind.i64.bits).toNat) (Nat.xor_lt_two_pow (n := 64) a2 b2)
  refine ⟨?_, w2⟩
  unfold xorI
  rw [w1, top_xor a2 b2, a1, b1]
theorem and_neg {a b : Int} (ha : okr a) (hb : okr b) : andI a b < 0 ↔ (a < 0 ∧ b < 0) := by
  obtain ⟨a1, a2⟩ := mod_top ha
  obtain ⟨b1, b2⟩ := mod_top hb
  obtain ⟨w1, w2⟩ := wrap_top (m := (a % 2 ^ IntKind.i64.bits).toNat &&& (b % 2 ^ IntKind.i64.bits).toNat) (Nat.and_lt_two_pow (n := 64) _ b2)
  unfold andI
  rw [w1, top_and a2 b2, a1, b1]
/-- A sum that overflows shows in its sign. -/
theorem add_ok {a b : Int} (ha : okr a) (hb : okr b) : 0 ≤ andI (xorI a (IntKind.i64.wrap (a + b))) (xorI b (IntKind.i64.wrap (a + b))) ↔ okr (a + b) := by
  have hn : okr (IntKind.i64.wrap (a + b)) := by rw [w64]; unfold okr; omega
  obtain ⟨x1, x2⟩ := xor_neg ha hn
  obtain ⟨y1, y2⟩ := xor_neg hb hn
  have h := and_neg x2 y2
  have hw := w64 (a + b)
  unfold okr at *
  generalize IntKind.i64.wrap (a + b) = n at *
  by_cases p : 0 ≤ andI (xorI a n) (xorI b n)
  · have : ¬ (xorI a n < 0 ∧ xorI b n < 0) := fun q => by have := h.2 q; omega
    rw [x1, y1] at this
    simp only [p, true_iff]
    omega
  · have : xorI a n < 0 ∧ xorI b n < 0 := h.1 (by omega)
    rw [x1, y1] at this
    simp only [p, false_iff]
    omega
theorem sub_ok {a b : Int} (ha : okr a) (hb : okr b) : 0 ≤ andI (xorI a b) (xorI a (IntKind.i64.wrap (a - b))) ↔ okr (a - b) := by
  have hn : okr (IntKind.i64.wrap (a - b)) := by rw [w64]; unfold okr; omega
  obtain ⟨x1, x2⟩ := xor_neg ha hb
  obtain ⟨y1, y2⟩ := xor_neg ha hn
  have h := and_neg x2 y2
  have hw := w64 (a - b)
  unfold okr at *
  generalize IntKind.i64.wrap (a - b) = n at *
  by_cases p : 0 ≤ andI (xorI a b) (xorI a n)
  · have : ¬ (xorI a b < 0 ∧ xorI a n < 0) := fun q => by have := h.2 q; omega
    rw [x1, y1] at this
    simp only [p, true_iff]
    omega
  · have : xorI a b < 0 ∧ xorI a n < 0 := h.1 (by omega)
    rw [x1, y1] at this
    simp only [p, false_iff]
    omega
/-- The upper half of a product. -/
def hiF (x y : Nat) : Nat :=
  let t := (x / 4294967296) * (y % 4294967296) + ((x % 4294967296) * (y % 4294967296)) / 4294967296
  (x / 4294967296) * (y / 4294967296) + t / 4294967296 + (t % 4294967296 + (x % 4294967296) * (y / 4294967296)) / 4294967296
theorem hiF_eq (x y : Nat) : hiF x y = x * y / 18446744073709551616 := by
  unfold hiF
  have h : x * y = (x / 4294967296) * (y / 4294967296) * 18446744073709551616 + ((x / 4294967296) * (y % 4294967296) + (x % 4294967296) * (y / 4294967296)) * 4294967296 + (x % 4294967296) * (y % 4294967296) := by
    have hx : x = 4294967296 * (x / 4294967296) + x % 4294967296 := by omega
    have hy : y = 4294967296 * (y / 4294967296) + y % 4294967296 := by omega
    generalize x / 4294967296 = x1 at *
    generalize x % 4294967296 = x0 at *
    generalize y / 4294967296 = y1 at *
    generalize y % 4294967296 = y0 at *
    subst hx hy
    grind
  rw [h]
  generalize (x / 4294967296) * (y / 4294967296) = A
  generalize (x / 4294967296) * (y % 4294967296) = B
  generalize (x % 4294967296) * (y / 4294967296) = C
  generalize (x % 4294967296) * (y % 4294967296) = D
  dsimp only
  omega
/-- The absolute value. -/
def magF (n : Int) : Nat := n.natAbs
/-- Whether a product is in range, as the code sees it. -/
theorem mul_ok {a b : Int} : (hiF (magF a) (magF b) = 0 ∧ magF a * magF b % 18446744073709551616 ≤ (if (decide (a < 0)) = decide (b < 0) then 9223372036854775807 else 9223372036854775808)) ↔ okr (a * b) := by
  rw [hiF_eq]
  unfold magF okr
  have h : (a * b).natAbs = a.natAbs * b.natAbs := Int.natAbs_mul a b
  generalize hm : a.natAbs * b.natAbs = m at *
  have hs : (0 ≤ a * b ∨ a * b ≤ 0) := by omega
  by_cases ha : a < 0 <;> by_cases hb : b < 0
  · have : 0 < a * b := Int.mul_pos_of_neg_of_neg ha hb
    simp only [ha, hb, decide_true, if_true]
    omega
  · have : a * b ≤ 0 := Int.mul_nonpos_of_nonpos_of_nonneg (by omega) (by omega)
    simp only [ha, hb, decide_true, decide_false, Bool.true_eq_false, if_false]
    omega
  · have : a * b ≤ 0 := Int.mul_nonpos_of_nonneg_of_nonpos (by omega) (by omega)
    simp only [ha, hb, decide_true, decide_false, Bool.false_eq_true, if_false]
    omega
  · have : 0 ≤ a * b := Int.mul_nonneg (by omega) (by omega)
    simp only [ha, hb, decide_false, if_true]
    omega
/-- What an operation on integers gives: the number, and whether it is in range. -/
def rs (n : Int) : Int × Bool := if okr n then (n, true) else (0, false)
theorem rs_ok {n : Int} (h : okr n) : rs n = (n, true) := by unfold rs; rw [if_pos h]
theorem rs_no {n : Int} (h : ¬ okr n) : rs n = (0, false) := by unfold rs; rw [if_neg h]
theorem wrap_okr {n : Int} (h : okr n) : IntKind.i64.wrap n = n := by rw [w64]; unfold okr at h; omega
theorem rem_facts {a b : Int} (ha : okr a) (hb : okr b) (h0 : b ≠ 0) : okr (a.tmod b) ∧ okr (b * a.tdiv b) ∧ b * a.tdiv b + a.tmod b = a ∧ (a.tmod b ≠ 0 → (a.tmod b < 0 ↔ a < 0)) ∧ (b > 0 → a.tmod b < b ∧ -b < a.tmod b) ∧ (b < 0 → b < a.tmod b ∧ a.tmod b < -b) := by
  have h1 : b * a.tdiv b + a.tmod b = a := Int.mul_tdiv_add_tmod a b
  have h2 : (a.tmod b).natAbs = a.natAbs % b.natAbs := Int.natAbs_tmod a b
  have h3 : a.natAbs % b.natAbs < b.natAbs := Nat.mod_lt _ (by omega)
  have h4 : a.natAbs % b.natAbs ≤ a.natAbs := Nat.mod_le _ _
  have h5 : 0 ≤ a → 0 ≤ a.tmod b := fun h => Int.tmod_nonneg b h
  have h6 : a ≤ 0 → a.tmod b ≤ 0 := fun h => by
    have h7 := Int.tmod_nonneg b (show 0 ≤ -a by omega)
    rw [Int.neg_tmod] at h7
    omega
  generalize a.tmod b = m at *
  generalize b * a.tdiv b = n at *
  unfold okr at *
  omega
/-- The law of sums. -/
theorem sum_law {a b : Int} (ha : okr a) (hb : okr b) (h : okr (a + b)) : rs (a + b - b) = (a, true) := by
  rw [show a + b - b = a by omega, rs_ok ha]
/-- The law of products. -/
theorem product_law {a b : Int} (ha : okr a) (hb : okr b) (h : okr (a * b)) (h0 : b ≠ 0) : (a * b).tmod b = 0 ∧ IntKind.i64.wrap ((a * b).tdiv b) = a := by
  refine ⟨Int.mul_tmod_left a b, ?_⟩
  rw [Int.mul_tdiv_cancel a h0, wrap_okr ha]
/-- The law of quotients. -/
theorem quotient_law {a b : Int} (ha : okr a) (hb : okr b) (h0 : b ≠ 0) (hd : okr (a.tdiv b)) : rs ((rs (a.tdiv b * b)).1 + a.tmod b) = (a, true) := by
  obtain ⟨h1, h2, h3, _⟩ := rem_facts ha hb h0
  rw [Int.mul_comm (a.tdiv b) b, rs_ok h2]
  dsimp only
  rw [h3, rs_ok ha]
theorem less_irrefl : ∀ a : List UInt8, Op.bytesLess a a = false
  | [] => rfl
  | a :: x => by
    have h := less_irrefl x
    simp [Op.bytesLess, h, UInt8.lt_irrefl]
theorem less_flip : ∀ a b : List UInt8, a ≠ b → Op.bytesLess b a = !Op.bytesLess a b
  | [], [], h => absurd rfl h
  | [], b :: bs, _ => by simp [Op.bytesLess]
  | a :: xs, [], _ => by simp [Op.bytesLess]
  | a :: xs, b :: ys, h => by
    by_cases e : a = b
    · subst e
      have h2 := less_flip xs ys (fun e => h (by rw [e]))
      simp [Op.bytesLess, UInt8.lt_irrefl, h2]
    · have e2 : (b == a) = false := by simp; exact fun h => e h.symm
      have e3 : (a == b) = false := by simp [e]
      by_cases hlt : a < b
      · have hgt : ¬ b < a := UInt8.lt_asymm hlt
        simp [Op.bytesLess, hlt, hgt, e2]
      · have hgt : b < a := UInt8.lt_of_le_of_ne (UInt8.not_lt.1 hlt) (Ne.symm e)
        simp [Op.bytesLess, hlt, hgt, e3]
theorem toList_data (a : ByteArray) : a.toList = a.data.toList := by
  have key : ∀ (n i : Nat) (r : List UInt8), a.size - i = n → ByteArray.toList.loop a i r = r.reverse ++ a.data.toList.drop i := by
    intro n
    induction n with
    | zero =>
      intro i r h
      have hl : a.data.toList.length ≤ i := by
        show a.data.size ≤ i
        have : a.size = a.data.size := rfl
        omega
      rw [ByteArray.toList.loop, if_neg (by omega), List.drop_eq_nil_of_le hl, List.append_nil]
    | succ n ih =>
      intro i r h
      have hi : i < a.data.toList.length := by
        show i < a.data.size
        have : a.size = a.data.size := rfl
        omega
      have hg : a.get! i = a.data.toList[i] := by
        show a.data[i]! = _
        rw [getElem!_pos a.data i hi]
        rfl
      rw [ByteArray.toList.loop, if_pos (by omega), ih _ _ (by omega), hg, List.reverse_cons, List.append_assoc, List.drop_eq_getElem_cons hi]
      rfl
  rw [ByteArray.toList, key _ 0 [] rfl]
  rfl
theorem bytes_ext {a b : ByteArray} (h : a.data.toList = b.data.toList) : a = b := by
  obtain ⟨⟨x⟩⟩ := a
  obtain ⟨⟨y⟩⟩ := b
  simp only at h
  rw [h]
/-- Of two strings, one is less, or the other, or they are equal. -/
theorem text_cases (s t : ByteArray) : (s = t ∧ Op.bytesLess s.toList t.toList = false ∧ Op.bytesLess t.toList s.toList = false) ∨ (s ≠ t ∧ Op.bytesLess s.toList t.toList = true ∧ Op.bytesLess t.toList s.toList = false) ∨ (s ≠ t ∧ Op.bytesLess s.toList t.toList = false ∧ Op.bytesLess t.toList s.toList = true) := by
  by_cases h : s = t
  · subst h
    exact .inl ⟨rfl, less_irrefl _, less_irrefl _⟩
  · have h2 : s.toList ≠ t.toList := fun e => h (bytes_ext (by rwa [toList_data, toList_data] at e))
    have h3 := less_flip _ _ h2
    cases hb : Op.bytesLess s.toList t.toList with
    | true => rw [hb] at h3; exact .inr (.inl ⟨h, rfl, h3⟩)
    | false => rw [hb] at h3; exact .inr (.inr ⟨h, rfl, h3⟩)
end Go.Ops

namespace Go.Ops
open Go
theorem okr_wf {a : Int} (h : (Lit.int .i64 a).wf = true) : okr a := by
  unfold Lit.wf at h
  rw [Bool.and_eq_true, decide_eq_true_eq, decide_eq_true_eq] at h
  exact h
end Go.Ops
