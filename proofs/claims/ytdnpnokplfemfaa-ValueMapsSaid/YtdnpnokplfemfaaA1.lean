/- The abstract machine: values by content, roots, and what each abstract operation does. Plain definitions; nothing here is trusted. -/
import Derived.Calls
import Derived.Orders
import Derived.Lib.Bytealg
import Derived.Below
import Derived.Laws.StructEq
import Derived.Laws.Rows
import Derived.WideLaws
import Derived.Deep.MidRow
import Derived.Laws.Tables
import Derived.Laws.BytesArg
import Derived.ArgAppend

namespace Go.Amb
open Go

/-- Kinds of a slice that is told by its content: read-only; read-only and made since the call began; with no spare room; owned alone (cells of an element). -/
inductive SK where
  | fro | fre | ext | own (sz : Nat)

inductive AV where
  | undef
  | int (k : IntKind) (n : Int)
  | bool (b : Bool)
  | str (s : ByteArray)
  | nilp
  | ptr (r i o : Nat)
  | fptr (x : AV) (o : Nat)
  | sl (k : SK) (xs : List AV)
  | hdr (r off len : Nat)
  | agg (cs : List AV)
  | tup (vs : List AV)
  | nilf
  | fn (f : Nat) (cap : List AV)
  | mfn (f : Nat) (bnd : List AV)
  | nili
  | ifc (t : Nat) (v : AV)
  | grd (g : Bool) (v : AV)
  | anyc
  | capv (r off q : Nat)

instance : Inhabited AV := ⟨.undef⟩

/-- The cells that a value takes in memory. -/
def cellsOf : AV → List AV
  | .agg cs => cs
  | v => [v]
def flat (xs : List AV) : List AV := xs.flatMap cellsOf
/-- A value of one cell. -/
def AV.one : AV → Bool
  | .agg _ | .tup _ | .grd _ _ | .undef => false
  | _ => true
def reCells : AV → List AV → AV
  | .agg _, cs => .agg cs
  | _, [v] => v
  | e, _ => e
/-- May be read out of memory and held twice. -/
def AV.shr : AV → Bool
  | .sl (.own _) _ => false
  | v => v.one

/-- A constant operand. -/
inductive CV where
  | int (k : IntKind) (n : Int)
  | bool (b : Bool)
  | str (l : List UInt8)
  | nils | nilp | nilf | nili
  | fn (f : Nat)
  | agg (cs : List CV)
def CV.av : CV → AV
  | .int k n => .int k n
  | .bool b => .bool b
  | .str l => .str ⟨l.toArray⟩
  | .nils => .sl .ext []
  | .nilp => .nilp
  | .nilf => .nilf
  | .nili => .nili
  | .fn f => .fn f []
  | .agg cs => .agg (avs cs)
  where avs : List CV → List AV
  | [] => []
  | c :: cs => c.av :: avs cs

inductive AOpr where
  | t (n : Nat)
  | c (v : CV)

/-- Kinds of cells that can be compared. -/
inductive CK where
  | i (k : IntKind) | b | s
  deriving DecidableEq
/-- What is held against nil: a pointer, an interface value, a function value. -/
inductive NC where
  | p | i | f
  deriving DecidableEq
inductive AOp where
  | mov (x : AOpr)
  | pick (c a b : AOpr)
  | bin (op : BinOp) (x y : AOpr)
  | eqb (ng : Bool) (x y : AOpr)
  | eqn (ng : Bool) (c : NC) (x : AOpr)
  | eqz (ng : Bool) (x : AOpr)
  | eqs (ng : Bool) (ks : List CK) (x y : AOpr)
  | neg (x : AOpr)
  | not (x : AOpr)
  | com (x : AOpr)
  | alloc (sz : Nat) (agg : Bool) (z : List CV)
  | box (sz : Nat) (agg : Bool) (x : AOpr)
  | build (z : List CV) (ps : List (Nat × Nat × AOpr))
  | bsl (sz : Nat) (agg : Bool) (n : Nat) (z : List CV) (ps : List (Nat × AOpr))
  | load (n : Nat) (agg : Bool) (a : AOpr)
  | store (n : Nat) (agg : Bool) (a x : AOpr)
  | fad (off : Nat) (a : AOpr)
  | iad (sz : Nat) (x i : AOpr)
  | fld (off n : Nat) (agg : Bool) (x : AOpr)
  | sidx (x i : AOpr)
  | slice (sz : Nat) (x : AOpr) (lo hi mx : Option AOpr)
  | sslice (x : AOpr) (lo hi : Option AOpr)
  | len (s : Bool) (x : AOpr)
  | mx (l : List AOpr)
  | mn (l : List AOpr)
  | app (sz bytes : Nat) (s x : AOpr)
  | conv (k : IntKind) (x : AOpr)
  | b2s (x : AOpr)
  | s2b (x : AOpr)
  | off
  | cpy (sz : Nat) (d x : AOpr)
  | cap (sz : Nat) (x : AOpr)
  | apz (sz bytes : Nat) (agg : Bool) (z : List CV) (s x : AOpr) (d : Nat)
  | ovl (x y : AOpr)
  | ext (x : AOpr) (i : Nat)
  | call (f : Nat) (args : List AOpr)
  | callv (x : AOpr) (args : List AOpr)
  | mkf (f : Nat) (caps : List AOpr)
  | mkm (f : Nat) (bnd : List AOpr)
  | nilc (x : AOpr)
  | clr (sz : Nat) (agg : Bool) (z : List CV) (x : AOpr)
  | slm (x l h m : AOpr)
  | cmps (x y : AOpr)
  | mks (sz bytes : Nat) (agg : Bool) (z : List CV) (x : AOpr)

/-- An operation: where its result goes, its guard (a slot and what it must hold), the number of its fresh root, whether a call's result becomes a root. -/
structure AI where
  op : AOp
  dst : Option Nat
  g : Option (Nat × Bool) := none
  k : Nat := 0
  ad : Bool := false

structure Blk where
  sz : Nat
  box : Bool
  es : List AV

structure St where
  tmp : Nat → AV
  heap : Nat → Option Blk
  nx : Nat
  us : Nat → Bool

def tupd (t : Nat → AV) (d : Nat) (v : AV) : Nat → AV := fun j => if j = d then v else t j
def hupd (h : Nat → Option Blk) (r : Nat) (b : Option Blk) : Nat → Option Blk := fun j => if j = r then b else h j
def uupd (u : Nat → Bool) (r : Nat) : Nat → Bool := fun j => if j = r then true else u j
def tmt : Nat → AV := fun _ => .undef
def hmt : Nat → Option Blk := fun _ => none
/-- Temps and heap written out as lists. -/
def mkT : List (Nat × AV) → Nat → AV
  | [] => tmt
  | (d, v) :: l => tupd (mkT l) d v
def mkH : List (Nat × Blk) → Nat → Option Blk
  | [] => hmt
  | (r, b) :: l => hupd (mkH l) r (some b)
/-- A state as lists: what a region begins with. -/
def mkS (t : List (Nat × AV)) (h : List (Nat × Blk)) (nx : Nat) : St := ⟨mkT t, mkH h, nx, fun r => decide (r < nx)⟩

def AV.strip : AV → AV
  | .grd _ v => v
  | v => v
def St.val (st : St) : AOpr → AV
  | .t n => (st.tmp n).strip
  | .c v => v.av
def AV.ok : AV → Prop
  | .undef => False
  | .grd g _ => g = true
  | _ => True
def St.ok (st : St) : AOpr → Prop
  | .t n => (st.tmp n).ok
  | .c _ => True
def St.put (st : St) (d : Option Nat) (v : AV) : St :=
  match d with
  | some d => { st with tmp := tupd st.tmp d v }
  | none => st

/-! ### values -/
def eqCell : AV → AV → Bool
  | .int _ a, .int _ b => a == b
  | .bool a, .bool b => a == b
  | .str a, .str b => decide (a = b)
  | _, _ => false
def eqCells : List AV → List AV → Bool
  | [], [] => true
  | a :: x, b :: y => eqCell a b && eqCells x y
  | _, _ => false
/-- Is it nil? (a pointer, an interface value, a function value) -/
def isNil : AV → Bool
  | .nilp | .nili | .nilf => true
  | _ => false
def nilable : NC → AV → Bool
  | .p, .nilp | .p, .ptr .. | .p, .fptr .. => true
  | .i, .nili | .i, .ifc .. => true
  | .f, .nilf | .f, .fn .. | .f, .mfn .. => true
  | _, _ => false
def ckOf : AV → Option CK
  | .int k _ => some (.i k)
  | .bool _ => some .b
  | .str _ => some .s
  | _ => none
def binII (op : BinOp) (k : IntKind) (a b : Int) : AV :=
  match op with
  | .add => .int k (k.wrap (a + b))
  | .sub => .int k (k.wrap (a - b))
  | .mul => .int k (k.wrap (a * b))
  | .quo => .int k (k.wrap (a.tdiv b))
  | .rem => .int k (a.tmod b)
  | .and => .int k (k.wrap (BitVec.ofInt k.bits a &&& BitVec.ofInt k.bits b).toNat)
  | .or => .int k (k.wrap (BitVec.ofInt k.bits a ||| BitVec.ofInt k.bits b).toNat)
  | .xor => .int k (k.wrap (BitVec.ofInt k.bits a ^^^ BitVec.ofInt k.bits b).toNat)
  | .andNot => .int k (k.wrap (BitVec.ofInt k.bits a &&& ~~~ BitVec.ofInt k.bits b).toNat)
  | .shl => .int k (k.wrap (a * 2 ^ (min b.toNat k.bits)))
  | .shr => .int k (a.fdiv (2 ^ (min b.toNat k.bits)))
  | .eql => .bool (a == b)
  | .neq => .bool (a != b)
  | .lss => .bool (decide (a < b))
  | .leq => .bool (decide (a ≤ b))
  | .gtr => .bool (decide (a > b))
  | .geq => .bool (decide (a ≥ b))
def binIIok (op : BinOp) (k k' : IntKind) (b : Int) : Prop :=
  match op with
  | .quo | .rem => k = k' ∧ b ≠ 0
  | .shl | .shr => 0 ≤ b
  | _ => k = k'
def binSS (op : BinOp) (a b : ByteArray) : AV :=
  match op with
  | .add => .str (a ++ b)
  | .eql => .bool (decide (a = b))
  | .neq => .bool (!decide (a = b))
  | .lss => .bool (Op.bytesLess a.toList b.toList)
  | .leq => .bool (Op.bytesLess a.toList b.toList || decide (a = b))
  | .gtr => .bool (!(Op.bytesLess a.toList b.toList || decide (a = b)))
  | .geq => .bool (!Op.bytesLess a.toList b.toList)
  | _ => .undef
def binSSok (op : BinOp) (a b : ByteArray) : Prop :=
  match op with
  | .add => a.size + b.size ≤ 9223372036854775807
  | .eql | .neq | .lss | .leq | .gtr | .geq => True
  | _ => False
def binV (op : BinOp) (x y : AV) : AV :=
  match x, y with
  | .int k a, .int _ b => binII op k a b
  | .int k a, .capv _ _ q => binII op k a q
  | .str a, .str b => binSS op a b
  | _, _ => .undef
def binOk (op : BinOp) (x y : AV) : Prop :=
  match x, y with
  | .int k _, .int k' b => binIIok op k k' b
  | .int k _, .capv _ _ q => binIIok op k .i64 q
  | .str a, .str b => binSSok op a b
  | _, _ => False
def cmpV (ng : Bool) (b : Bool) : AV := .bool (if ng then !b else b)

def iteV (c : Bool) : AV → AV → AV
  | .bool a, .bool b => .bool (if c then a else b)
  | .int k a, .int _ b => .int k (if c then a else b)
  | .str a, .str b => .str (if c then a else b)
  | a, b => if c then a else b
/-- Both branches of a pick are of one kind. -/
def iteOk : AV → AV → Prop
  | .int k _, .int k' _ => k = k'
  | _, _ => True
def boolOf : AV → Bool
  | .bool b => b
  | _ => false
def intOf' : AV → Int
  | .int _ n => n
  | _ => 0
def isInt : AV → Bool
  | .int _ _ => true
  | _ => false
def isBool : AV → Bool
  | .bool _ => true
  | _ => false

/-- Parts laid over zero cells. -/
def fillA : List AV → List (Nat × Nat × AV) → List AV
  | z, [] => z
  | z, (off, n, v) :: ps => fillA (z.take off ++ cellsOf v ++ z.drop (off + n)) ps
/-- The elements of a literal. -/
def litA (z : AV) (n : Nat) (ps : List (Nat × AV)) : List AV := ps.foldl (fun l p => l.set p.1 p.2) (List.replicate n z)

def St.blk (st : St) (r : Nat) : Blk := (st.heap r).getD ⟨0, false, []⟩
def elemAt (xs : List AV) (i : Nat) : AV := xs.getD i .undef
/-- What lies at an address. -/
def St.there (st : St) : AV → List AV
  | .ptr r i o => (cellsOf (elemAt (st.blk r).es i)).drop o
  | .fptr x o => (cellsOf x).drop o
  | _ => []
def St.thereOk (st : St) (n : Nat) : AV → Prop
  | .ptr r i o => (st.heap r).isSome = true ∧ i < (st.blk r).es.length ∧ o + n ≤ (cellsOf (elemAt (st.blk r).es i)).length
  | .fptr x o => o + n ≤ (cellsOf x).length
  | _ => False
def asVar (agg : Bool) (cs : List AV) : AV := if agg then .agg cs else cs.headD .undef

/-- Which slices may be cut. -/
def SK.cuts (k : SK) (xs : List AV) : Prop :=
  match k with
  | .own _ => False
  | .ext => xs = []
  | _ => True
def lo' (st : St) : Option AOpr → Nat
  | some x => (intOf' (st.val x)).toNat
  | none => 0
def hi' (st : St) (n : Nat) : Option AOpr → Nat
  | some x => (intOf' (st.val x)).toNat
  | none => n
def boundOk (st : St) (lo n : Nat) : Option AOpr → Prop
  | some x => st.ok x ∧ isInt (st.val x) = true ∧ (lo : Int) ≤ intOf' (st.val x) ∧ intOf' (st.val x) ≤ n
  | none => True
def lenOf : AV → Nat
  | .sl _ xs => xs.length
  | .hdr _ _ n => n
  | .str s => s.size
  | _ => 0
def maxI : List AV → AV
  | [] => .undef
  | [x] => x
  | x :: y :: l => maxI ((match x, y with | .int k a, .int _ b => .int k (if b > a then b else a) | _, _ => .undef) :: l)
  termination_by l => l.length
def minI : List AV → AV
  | [] => .undef
  | [x] => x
  | x :: y :: l => minI ((match x, y with | .int k a, .int _ b => .int k (if b < a then b else a) | _, _ => .undef) :: l)
  termination_by l => l.length
def numsToBytes (xs : List AV) : ByteArray := ⟨(xs.map fun x => UInt8.ofNat (intOf' x).toNat).toArray⟩
def isU8 : AV → Bool
  | .int .u8 _ => true
  | _ => false

/-- The value that an operation without effect gives. -/
def vop (st : St) (k : Nat) : AOp → AV
  | .mov x => st.val x
  | .pick c a b => iteV (boolOf (st.val c)) (st.val a) (st.val b)
  | .bin op x y => binV op (st.val x) (st.val y)
  | .eqb ng x y => cmpV ng (boolOf (st.val x) == boolOf (st.val y))
  | .eqn ng _ x => cmpV ng (isNil (st.val x))
  | .eqs ng _ x y => cmpV ng (eqCells (cellsOf (st.val x)) (cellsOf (st.val y)))
  | .neg x => match st.val x with | .int k n => .int k (k.wrap (0 - n)) | _ => .undef
  | .not x => .bool (!boolOf (st.val x))
  | .com x => match st.val x with | .int k n => .int k (k.wrap (BitVec.ofInt k.bits (if k.signed then -1 else k.max) ^^^ BitVec.ofInt k.bits n).toNat) | _ => .undef
  | .alloc .. | .box .. => .ptr (st.nx + k) 0 0
  | .build z ps => .agg (fillA (z.map CV.av) (ps.map fun (o, n, x) => (o, n, st.val x)))
  | .bsl _ agg n z ps => .sl .ext (litA (asVar agg (z.map CV.av)) n (ps.map fun (i, x) => (i, st.val x)))
  | .load n agg a => asVar agg ((st.there (st.val a)).take n)
  | .fad off a => match st.val a with | .ptr r i o => .ptr r i (o + off) | .fptr x o => .fptr x (o + off) | _ => .undef
  | .iad _ x i => match st.val x with
    | .sl _ xs => .fptr (elemAt xs (intOf' (st.val i)).toNat) 0
    | .hdr r off _ => .ptr r (off + (intOf' (st.val i)).toNat) 0
    | _ => .undef
  | .fld off n agg x => match st.val x with | .agg cs => asVar agg ((cs.drop off).take n) | _ => .undef
  | .sidx x i => match st.val x with | .str s => .int .u8 ((s.data.toList.getD (intOf' (st.val i)).toNat 0).toNat) | _ => .undef
  | .slice _ x l h _ => match st.val x with
    | .sl k xs => .sl k ((xs.drop (lo' st l)).take (hi' st xs.length h - lo' st l))
    | .hdr r off n => .hdr r (off + lo' st l) (hi' st n h - lo' st l)
    | _ => .undef
  | .sslice x l h => match st.val x with | .str s => .str (s.extract (lo' st l) (hi' st s.size h)) | _ => .undef
  | .len _ x => .int .i64 (lenOf (st.val x))
  | .mx l => maxI (l.map st.val)
  | .mn l => minI (l.map st.val)
  | .conv k x => .int k (k.wrap (intOf' (st.val x)))
  | .b2s x => match st.val x with
    | .sl _ xs => .str (numsToBytes xs)
    | .hdr r off n => .str (numsToBytes (((st.blk r).es.drop off).take n))
    | _ => .undef
  | .s2b x => match st.val x with | .str s => .sl .fro (s.data.toList.map fun b => .int .u8 b.toNat) | _ => .undef
  | .ovl _ _ => .bool false
  | .ext x i => match st.val x with | .tup vs => vs.getD i .undef | _ => .undef
  | .mkf f caps => .fn f (caps.map st.val)
  | .mkm f bnd => .mfn f (bnd.map st.val)
  | .nilc x => st.val x
  | .cmps x y => match st.val x, st.val y with | .str a, .str b => .int .i64 (Lib.compareBytes a.data.toList b.data.toList) | _, _ => .undef
  | .mks _ _ _ _ x => .hdr (st.nx + k) 0 (intOf' (st.val x)).toNat
  | _ => .undef

/-- What it asks. -/
def pop (st : St) (k : Nat) : AOp → Prop
  | .mov x => st.ok x
  | .pick c a b => st.ok c ∧ isBool (st.val c) = true ∧ (boolOf (st.val c) = true → st.ok a) ∧ (boolOf (st.val c) = false → st.ok b) ∧ iteOk (st.val a) (st.val b)
  | .bin op x y => st.ok x ∧ st.ok y ∧ binOk op (st.val x) (st.val y)
  | .eqb _ x y => st.ok x ∧ st.ok y ∧ isBool (st.val x) = true ∧ isBool (st.val y) = true
  | .eqn _ c x => st.ok x ∧ nilable c (st.val x) = true
  | .eqs _ ks x y => st.ok x ∧ st.ok y ∧ (match st.val x, st.val y with | .agg cs, .agg ds => cs.map ckOf = ks.map some ∧ ds.map ckOf = ks.map some | _, _ => False)
  | .neg x | .com x => st.ok x ∧ isInt (st.val x) = true
  | .not x => st.ok x ∧ isBool (st.val x) = true
  | .alloc sz _ z => st.us (st.nx + k) = false ∧ z.length = sz ∧ 0 < sz
  | .box sz agg x => st.us (st.nx + k) = false ∧ 0 < sz ∧ st.ok x ∧ (match st.val x with | .agg cs => agg = true ∧ cs.length = sz | v => agg = false ∧ sz = 1 ∧ v.one = true)
  | .build z ps => ∀ p ∈ ps, st.ok p.2.2 ∧ (cellsOf (st.val p.2.2)).length = p.2.1 ∧ p.1 + p.2.1 ≤ z.length ∧ (∀ c ∈ cellsOf (st.val p.2.2), c.one = true)
  | .bsl sz agg n z ps => z.length = sz ∧ (agg = false → sz = 1) ∧ 0 < sz ∧ (∀ p ∈ ps, st.ok p.2 ∧ p.1 < n ∧ (match st.val p.2 with | .agg cs => agg = true ∧ cs.length = sz | v => agg = false ∧ v.one = true)) ∧ n * sz ≤ 16777216
  | .load n agg a => st.ok a ∧ st.thereOk n (st.val a) ∧ (agg = false → n = 1) ∧ (∀ c ∈ (st.there (st.val a)).take n, c.shr = true)
  | .fad _ a => st.ok a ∧ (match st.val a with | .ptr .. => True | .fptr .. => True | _ => False)
  | .iad sz x i => st.ok x ∧ st.ok i ∧ isInt (st.val i) = true ∧ 0 ≤ intOf' (st.val i) ∧ (match st.val x with
    | .sl k xs => (match k with | .own _ => False | _ => True) ∧ intOf' (st.val i) < xs.length ∧ (cellsOf (elemAt xs (intOf' (st.val i)).toNat)).length = sz
    | .hdr r _ n => intOf' (st.val i) < n ∧ (st.heap r).isSome = true ∧ (st.blk r).sz = sz
    | _ => False)
  | .fld off n agg x => st.ok x ∧ (agg = false → n = 1) ∧ (match st.val x with | .agg cs => off + n ≤ cs.length | _ => False)
  | .sidx x i => st.ok x ∧ st.ok i ∧ isInt (st.val i) = true ∧ 0 ≤ intOf' (st.val i) ∧ (match st.val x with | .str s => intOf' (st.val i) < s.size | _ => False)
  | .slice sz x l h m => st.ok x ∧ m.isNone = true ∧ (match st.val x with
    | .sl k xs => k.cuts xs ∧ boundOk st 0 (hi' st xs.length h) l ∧ boundOk st 0 xs.length h ∧ (∀ v ∈ xs, (cellsOf v).length = sz)
    | .hdr r off n => boundOk st 0 (hi' st n h) l ∧ (boundOk st 0 n h ∨ boundOk st 0 ((st.blk r).es.length - off) h) ∧ (st.heap r).isSome = true ∧ (st.blk r).sz = sz
    | _ => False)
  | .sslice x l h => st.ok x ∧ (match st.val x with | .str s => boundOk st 0 (hi' st s.size h) l ∧ boundOk st 0 s.size h | _ => False)
  | .len s x => st.ok x ∧ (match st.val x with | .sl .. => s = false | .hdr .. => s = false | .str _ => s = true | _ => False)
  | .mx l | .mn l => (∀ x ∈ l, st.ok x ∧ isInt (st.val x) = true) ∧ l ≠ []
  | .conv _ x => st.ok x ∧ isInt (st.val x) = true
  | .b2s x => st.ok x ∧ (match st.val x with
    | .sl k xs => (match k with | .own _ => False | _ => True) ∧ ∀ v ∈ xs, isU8 v = true
    | .hdr r off n => (st.heap r).isSome = true ∧ (st.blk r).box = false ∧ (st.blk r).sz = 1 ∧ off + n ≤ (st.blk r).es.length ∧ ∀ v ∈ ((st.blk r).es.drop off).take n, isU8 v = true
    | _ => False)
  | .s2b x => st.ok x ∧ (match st.val x with | .str _ => True | _ => False)
  | .ovl x y => st.ok x ∧ st.ok y ∧ (match st.val x, st.val y with | .sl k xs, .hdr r _ _ => (match k with | .own _ => False | _ => True) ∧ xs ≠ [] ∧ (st.heap r).isSome = true ∧ 0 < (st.blk r).es.length | _, _ => False)
  | .ext x i => st.ok x ∧ (match st.val x with | .tup vs => i < vs.length | _ => False)
  | .mkf _ caps => ∀ x ∈ caps, st.ok x ∧ (st.val x).one = true
  | .mkm _ bnd => ∀ x ∈ bnd, st.ok x ∧ (st.val x).one = true
  | .nilc x => st.ok x ∧ (match st.val x with | .ptr .. => True | .fptr .. => True | .fn .. => True | _ => False)
  | .cmps x y => st.ok x ∧ st.ok y ∧ (match st.val x, st.val y with | .str _, .str _ => True | _, _ => False)
  | .mks sz bytes _ z x => st.us (st.nx + k) = false ∧ st.ok x ∧ isInt (st.val x) = true ∧ 0 ≤ intOf' (st.val x) ∧ intOf' (st.val x) * bytes ≤ 140737488355328 ∧ intOf' (st.val x) ≤ 9223372036854775807 ∧ z.length = sz ∧ 0 < sz
  | _ => False

/-- The root that it makes. -/
def rop (st : St) : AOp → Option Blk
  | .alloc sz agg z => some ⟨sz, true, [if agg then .agg (z.map CV.av) else (z.map CV.av).headD .undef]⟩
  | .box sz _ x => some ⟨sz, true, [st.val x]⟩
  | .mks sz _ agg z x => some ⟨sz, false, List.replicate (intOf' (st.val x)).toNat (asVar agg (z.map CV.av))⟩
  | _ => none
def St.make (st : St) (k : Nat) : Option Blk → St
  | some b => { st with heap := hupd st.heap (st.nx + k) (some b), us := uupd st.us (st.nx + k) }
  | none => st

/-- A slice with a third bound, of which nothing is told. -/
def roomOf (st : St) : AV → Nat
  | .hdr r off _ => (st.blk r).es.length - off
  | .sl _ xs => xs.length
  | _ => 0
def slmOk (st : St) (x l h m : AOpr) : Prop :=
  st.ok x ∧ (match st.val x with | .hdr r _ _ => (st.heap r).isSome = true | .sl k _ => (match k with | .own _ => False | _ => True) | _ => False) ∧ boundOk st 0 (roomOf st (st.val x)) (some m) ∧ boundOk st 0 (hi' st 0 (some m)) (some h) ∧ boundOk st 0 (hi' st 0 (some h)) (some l)
/-! ### closing: what goes into a row of a root that holds elements -/
/-- A cell, closed: a header becomes the row that it is the header of. -/
def closeV (h : Nat → Option Blk) : AV → AV
  | .hdr r off len => match h r with
    | some b => .sl (.own b.sz) ((b.es.drop off).take len)
    | none => .undef
  | .sl .ext [] => .sl .fro []
  | v => v
def closeE (h : Nat → Option Blk) : AV → AV
  | .agg cs => .agg (cs.map (closeV h))
  | v => closeV h v
def closeOk (h : Nat → Option Blk) : AV → Prop
  | .hdr r off len => match h r with
    | some b => b.box = false ∧ off + len ≤ b.es.length
    | none => False
  | .sl .ext xs => xs = []
  | .sl .fro _ | .sl .fre _ => True
  | .int .. | .bool _ | .str _ | .nilp | .nilf | .nili => True
  | .fn _ [] => True
  | _ => False
/-- The roots that are handed over. -/
def usedV : AV → List Nat
  | .hdr r _ _ => [r]
  | _ => []
def usedE (xs : List AV) : List Nat := (flat xs).flatMap usedV
def hdel (h : Nat → Option Blk) : List Nat → Nat → Option Blk
  | [] => h
  | r :: rs => hupd (hdel h rs) r none

/-- What 'append' adds: the elements, closed. -/
def St.news (st : St) : AV → List AV
  | .sl .ext xs => xs.map (closeE st.heap)
  | .sl _ xs => xs
  | .hdr r off n => ((st.blk r).es.drop off).take n
  | .str s => s.data.toList.map fun b => .int .u8 b.toNat
  | _ => []
def St.newsUsed : AV → List Nat
  | .sl .ext xs => usedE xs
  | _ => []
def St.newsOk (st : St) (sz : Nat) : AV → Prop
  | .sl .ext xs => ∀ x ∈ xs, (cellsOf x).length = sz ∧ ∀ c ∈ cellsOf x, closeOk st.heap c
  | .sl .fro xs | .sl .fre xs => ∀ x ∈ xs, (cellsOf x).length = sz
  | .hdr r off n => (st.heap r).isSome = true ∧ (st.blk r).box = false ∧ off + n ≤ (st.blk r).es.length ∧ (st.blk r).sz = sz ∧ ∀ c ∈ flat (((st.blk r).es.drop off).take n), c.shr = true
  | .str _ => sz = 1
  | _ => False
/-- What it adds to. -/
def St.olds (st : St) : AV → List AV
  | .sl .ext xs => xs.map (closeE st.heap)
  | .hdr r off _ => (st.blk r).es.drop off
  | _ => []
def St.oldsUsed : AV → List Nat
  | .sl .ext xs => usedE xs
  | .hdr r _ _ => [r]
  | _ => []
def St.oldsOk (st : St) (sz : Nat) (m : Nat) : AV → Prop
  | .sl .ext xs => (xs = [] ∨ 0 < m) ∧ ∀ x ∈ xs, (cellsOf x).length = sz ∧ ∀ c ∈ cellsOf x, closeOk st.heap c
  | .hdr r off n => (st.heap r).isSome = true ∧ (st.blk r).box = false ∧ off + n = (st.blk r).es.length ∧ (st.blk r).sz = sz
  | _ => False
/-- 'append': its result, its state, what it asks. -/
def appV (st : St) (k : Nat) (s x : AV) : AV := .hdr (st.nx + k) 0 ((st.olds s).length + (st.news x).length)
def appS (st : St) (k sz : Nat) (s x : AV) : St :=
  { st with heap := hupd (hdel st.heap (St.oldsUsed s ++ St.newsUsed x)) (st.nx + k) (some ⟨sz, false, st.olds s ++ st.news x⟩), us := uupd st.us (st.nx + k) }
def appOk (st : St) (k sz bytes : Nat) (s x : AV) : Prop :=
  st.us (st.nx + k) = false ∧ st.newsOk sz x ∧ st.oldsOk sz (st.news x).length s ∧ (St.oldsUsed s ++ St.newsUsed x).Nodup ∧ (match x with | .hdr r _ _ => r ∉ St.oldsUsed s | _ => True) ∧
    ((st.olds s).length + (st.news x).length) * bytes ≤ 140737488355328 ∧ (st.olds s).length + (st.news x).length ≤ 9223372036854775807

/-! ### stores -/
def putAt (e : AV) (o : Nat) (vs : List AV) : AV := reCells e ((cellsOf e).take o ++ vs ++ (cellsOf e).drop (o + vs.length))
def storeS (st : St) (A v : AV) : St :=
  match A with
  | .ptr r i o =>
    let b := st.blk r
    if b.box then { st with heap := hupd st.heap r (some { b with es := b.es.set i (putAt (elemAt b.es i) o (cellsOf v)) }) }
    else { st with heap := hupd (hdel st.heap (usedE [v])) r (some { b with es := b.es.set i (putAt (elemAt b.es i) o (cellsOf (closeE st.heap v))) }) }
  | _ => st
def storeOk (st : St) (n : Nat) (agg : Bool) (A v : AV) : Prop :=
  match A with
  | .ptr r i o => (st.heap r).isSome = true ∧ i < (st.blk r).es.length ∧ o + n ≤ (cellsOf (elemAt (st.blk r).es i)).length ∧ (cellsOf v).length = n ∧ (match v with | .agg _ => agg = true | w => agg = false ∧ w.one = true) ∧
      (if (st.blk r).box then True else (∀ c ∈ cellsOf v, closeOk st.heap c) ∧ (usedE [v]).Nodup ∧ r ∉ usedE [v])
  | _ => False
end Go.Amb

namespace Go.Amb
open Go

/-- Where a root lies: its block (none: it has no cell), how many elements of it lie before the root's first, an element's cells, its room. -/
structure Pl where
  b : Option Nat
  j : Nat
  sz : Nat
  cap : Nat
abbrev Pls := Nat → Option Pl
def noPl : Pls := fun _ => none

/-- From cell p of block b on lie the cells cs. -/
def At (w : World) (b p : Nat) (cs : List Value) : Prop := ∀ k v, cs[k]? = some v → w.cell? ⟨b, p + k, none⟩ = some v
/-- A row of the call's own: no cell of it is frozen. -/
def RowAt (w : World) (b n : Nat) : Prop := ∃ cells ty fr, w.heap[b]? = some (.cells cells ty fr) ∧ cells.size = n ∧ fr.2 ≤ fr.1 ∧ ∀ v ∈ cells.toList, v.oneCell' = true
def SK.ro : SK → Bool
  | .own _ => false
  | _ => true

inductive Vals (w : World) (O : Nat → Prop) (B : Nat) : Pls → List AV → List Value → List Nat → Prop
  | nil {pl} : Vals w O B pl [] [] []
  | int {pl k n vs us fp} (t : Vals w O B pl vs us fp) : Vals w O B pl (.int k n :: vs) (.int k n :: us) fp
  | bool {pl b vs us fp} (t : Vals w O B pl vs us fp) : Vals w O B pl (.bool b :: vs) (.bool b :: us) fp
  | str {pl s vs us fp} (t : Vals w O B pl vs us fp) : Vals w O B pl (.str s :: vs) (.string s :: us) fp
  | nilp {pl vs us fp} (t : Vals w O B pl vs us fp) : Vals w O B pl (.nilp :: vs) (.pointer none :: us) fp
  | nilf {pl vs us fp} (t : Vals w O B pl vs us fp) : Vals w O B pl (.nilf :: vs) (.nilFunc :: us) fp
  | nili {pl vs us fp} (t : Vals w O B pl vs us fp) : Vals w O B pl (.nili :: vs) (.nilIface :: us) fp
  | ptr {pl r i o b j sz cap vs us fp} (h : pl r = some ⟨some b, j, sz, cap⟩) (t : Vals w O B pl vs us fp) :
      Vals w O B pl (.ptr r i o :: vs) (.pointer (some ⟨b, (j + i) * sz + o, none⟩) :: us) fp
  | fptr {pl x o b p cs vs us fp} (hb : ¬ O b) (hl : b < w.heap.size) (hc : Vals w O B pl (cellsOf x) cs []) (ha : At w b p cs) (t : Vals w O B pl vs us fp) :
      Vals w O B pl (.fptr x o :: vs) (.pointer (some ⟨b, p + o, none⟩) :: us) fp
  | sle {pl k A c vs us fp} (hk : k.ro = true) (hc : k = .ext → c = 0) (t : Vals w O B pl vs us fp) : Vals w O B pl (.sl k [] :: vs) (.slice A 0 c :: us) fp
  | slf {pl k xs b p c sz cs vs us fp} (hk : k = .fro ∨ k = .fre) (hx : xs ≠ []) (hb : ¬ O b) (hl : b < w.heap.size) (hz : 0 < sz) (hu : ∀ x ∈ xs, (cellsOf x).length = sz)
      (h1 : ∀ x ∈ flat xs, x.one = true) (hc : Vals w O B noPl (flat xs) cs []) (ha : At w b p cs) (hn : xs.length ≤ c) (t : Vals w O B pl vs us fp) :
      Vals w O B pl (.sl k xs :: vs) (.slice (some ⟨b, p, none⟩) xs.length c :: us) fp
  | slx {pl xs b p sz cs vs us fp} (hx : xs ≠ []) (hb : ¬ O b) (hl : b < w.heap.size) (hz : 0 < sz) (hu : ∀ x ∈ xs, (cellsOf x).length = sz)
      (h1 : ∀ x ∈ flat xs, x.one = true) (hc : Vals w O B pl (flat xs) cs []) (ha : At w b p cs) (t : Vals w O B pl vs us fp) :
      Vals w O B pl (.sl .ext xs :: vs) (.slice (some ⟨b, p, none⟩) xs.length xs.length :: us) fp
  | owe {pl sz A vs us fp} (t : Vals w O B pl vs us fp) : Vals w O B pl (.sl (.own sz) [] :: vs) (.slice A 0 0 :: us) fp
  | ow {pl sz xs b j cap cs fp1 vs us fp} (hr : RowAt w b ((j + cap) * sz)) (hl : b < w.heap.size) (hz : 0 < sz) (hu : ∀ x ∈ xs, (cellsOf x).length = sz) (h1 : ∀ x ∈ flat xs, x.one = true)
      (hn : xs.length ≤ cap) (hc : Vals w O B noPl (flat xs) cs fp1) (ha : At w b (j * sz) cs) (t : Vals w O B pl vs us fp) :
      Vals w O B pl (.sl (.own sz) xs :: vs) (.slice (some ⟨b, j * sz, none⟩) xs.length cap :: us) (b :: (fp1 ++ fp))
  | hdr {pl r off len b j sz cap A vs us fp} (h : pl r = some ⟨some b, j, sz, cap⟩) (hn : off + len ≤ cap) (hA : A = some ⟨b, (j + off) * sz, none⟩ ∨ cap = off) (t : Vals w O B pl vs us fp) :
      Vals w O B pl (.hdr r off len :: vs) (.slice A len (cap - off) :: us) fp
  | hdre {pl r j sz A vs us fp} (h : pl r = some ⟨none, j, sz, 0⟩) (t : Vals w O B pl vs us fp) : Vals w O B pl (.hdr r 0 0 :: vs) (.slice A 0 0 :: us) fp
  | agg {pl cs us1 fp1 vs us fp} (h1 : ∀ c ∈ cs, c.one = true) (hc : Vals w O B pl cs us1 fp1) (t : Vals w O B pl vs us fp) : Vals w O B pl (.agg cs :: vs) (.agg us1.toArray :: us) (fp1 ++ fp)
  | tup {pl cs us1 fp1 vs us fp} (hc : Vals w O B pl cs us1 fp1) (t : Vals w O B pl vs us fp) : Vals w O B pl (.tup cs :: vs) (.tuple us1.toArray :: us) (fp1 ++ fp)
  | fn {pl f cs us1 vs us fp} (hc : Vals w O B pl cs us1 []) (t : Vals w O B pl vs us fp) : Vals w O B pl (.fn f cs :: vs) (.func (.func f) #[] us1.toArray :: us) fp
  | mfn {pl f cs us1 vs us fp} (hc : Vals w O B pl cs us1 []) (t : Vals w O B pl vs us fp) : Vals w O B pl (.mfn f cs :: vs) (.func (.func f) us1.toArray #[] :: us) fp
  | ifc {pl ty v u vs us fp} (hc : Vals w O B pl [v] [u] []) (t : Vals w O B pl vs us fp) : Vals w O B pl (.ifc ty v :: vs) (.iface ty u :: us) fp
  | capv {pl r off q p vs us fp} (h : pl r = some p) (hq : q = p.cap - off) (t : Vals w O B pl vs us fp) : Vals w O B pl (.capv r off q :: vs) (.int .i64 q :: us) fp
  | any {pl u vs us fp} (hu : u.oneCell' = true) (t : Vals w O B pl vs us fp) : Vals w O B pl (.anyc :: vs) (u :: us) fp
  | grd {pl g v u vs us fp} (hc : g = true → Vals w O B pl [v] [u] []) (hu : g = false → u = undef) (t : Vals w O B pl vs us fp) : Vals w O B pl (.grd g v :: vs) (u :: us) fp

theorem At.move {w w' : World} {b p : Nat} {cs : List Value} (h : At w b p cs) (hs : w'.heap[b]? = w.heap[b]?) : At w' b p cs := by
  intro k v hk
  have := h k v hk
  simp only [World.cell?] at this ⊢
  rw [hs]; exact this
theorem RowAt.move {w w' : World} {b n : Nat} (h : RowAt w b n) (hs : w'.heap[b]? = w.heap[b]?) : RowAt w' b n := by
  obtain ⟨cells, ty, fr, h1, h2⟩ := h
  exact ⟨cells, ty, fr, hs.trans h1, h2⟩

section
variable {w w' : World} {O O' : Nat → Prop} {B B' : Nat} {pl pl' : Pls} {vs vs' : List AV} {us us' : List Value} {fp fp' : List Nat}

/-- The relation outlives whatever leaves the blocks that it speaks of alone. -/
theorem Vals.shift (h : Vals w O B pl vs us fp) :
    (∀ b, (b ∈ fp ∨ ¬ O b) → b < w.heap.size → w'.heap[b]? = w.heap[b]?) → w.heap.size ≤ w'.heap.size → (∀ b, b < w.heap.size → ¬ O b → ¬ O' b) → ∀ pl', (∀ r p, pl r = some p → pl' r = some p) →
    Vals w' O' B' pl' vs us fp := by
  induction h with
  | nil => intros; exact .nil
  | int t ih => intro h1 h2 h3 pl' h5; exact .int (ih h1 h2 h3 _ h5)
  | bool t ih => intro h1 h2 h3 pl' h5; exact .bool (ih h1 h2 h3 _ h5)
  | str t ih => intro h1 h2 h3 pl' h5; exact .str (ih h1 h2 h3 _ h5)
  | nilp t ih => intro h1 h2 h3 pl' h5; exact .nilp (ih h1 h2 h3 _ h5)
  | nilf t ih => intro h1 h2 h3 pl' h5; exact .nilf (ih h1 h2 h3 _ h5)
  | nili t ih => intro h1 h2 h3 pl' h5; exact .nili (ih h1 h2 h3 _ h5)
  | ptr h t ih => intro h1 h2 h3 pl' h5; exact .ptr (h5 _ _ h) (ih h1 h2 h3 _ h5)
  | fptr hb hl hc ha t ihc ih =>
    intro h1 h2 h3 pl' h5
    exact .fptr (h3 _ hl hb) (by omega) (ihc (fun b hb' hl => h1 b (.inr (hb'.resolve_left (by simp))) hl) h2 h3 pl' h5) (ha.move (h1 _ (.inr hb) hl)) (ih h1 h2 h3 _ h5)
  | sle hk hc t ih => intro h1 h2 h3 pl' h5; exact .sle hk hc (ih h1 h2 h3 _ h5)
  | slf hk hx hb hl hz hu ho hc ha hn t ihc ih =>
    intro h1 h2 h3 pl' h5
    exact .slf hk hx (h3 _ hl hb) (by omega) hz hu ho (ihc (fun b hb' hl => h1 b (.inr (hb'.resolve_left (by simp))) hl) h2 h3 noPl (fun r p hp => hp)) (ha.move (h1 _ (.inr hb) hl)) hn (ih h1 h2 h3 _ h5)
  | slx hx hb hl hz hu ho hc ha t ihc ih =>
    intro h1 h2 h3 pl' h5
    exact .slx hx (h3 _ hl hb) (by omega) hz hu ho (ihc (fun b hb' hl => h1 b (.inr (hb'.resolve_left (by simp))) hl) h2 h3 pl' h5) (ha.move (h1 _ (.inr hb) hl)) (ih h1 h2 h3 _ h5)
  | owe t ih => intro h1 h2 h3 pl' h5; exact .owe (ih h1 h2 h3 _ h5)
  | ow hr hl hz hu ho hn hc ha t ihc ih =>
    intro h1 h2 h3 pl' h5
    have hs := h1 _ (.inl List.mem_cons_self) hl
    refine .ow (hr.move hs) (by omega) hz hu ho hn (ihc (fun b hb' hl => h1 b ?_ hl) h2 h3 noPl (fun r p hp => hp)) (ha.move hs) (ih (fun b hb' hl => h1 b ?_ hl) h2 h3 _ h5)
    · exact hb'.imp (fun hm => List.mem_cons_of_mem _ (List.mem_append_left _ hm)) id
    · exact hb'.imp (fun hm => List.mem_cons_of_mem _ (List.mem_append_right _ hm)) id
  | hdr h hn hA t ih => intro h1 h2 h3 pl' h5; exact .hdr (h5 _ _ h) hn hA (ih h1 h2 h3 _ h5)
  | hdre h t ih => intro h1 h2 h3 pl' h5; exact .hdre (h5 _ _ h) (ih h1 h2 h3 _ h5)
  | agg ho hc t ihc ih =>
    intro h1 h2 h3 pl' h5
    exact .agg ho (ihc (fun b hb' hl => h1 b (hb'.imp (List.mem_append_left _) id) hl) h2 h3 _ h5) (ih (fun b hb' hl => h1 b (hb'.imp (List.mem_append_right _) id) hl) h2 h3 _ h5)
  | tup hc t ihc ih =>
    intro h1 h2 h3 pl' h5
    exact .tup (ihc (fun b hb' hl => h1 b (hb'.imp (List.mem_append_left _) id) hl) h2 h3 _ h5) (ih (fun b hb' hl => h1 b (hb'.imp (List.mem_append_right _) id) hl) h2 h3 _ h5)
  | fn hc t ihc ih => intro h1 h2 h3 pl' h5; exact .fn (ihc (fun b hb' hl => h1 b (.inr (hb'.resolve_left (by simp))) hl) h2 h3 _ h5) (ih h1 h2 h3 _ h5)
  | mfn hc t ihc ih => intro h1 h2 h3 pl' h5; exact .mfn (ihc (fun b hb' hl => h1 b (.inr (hb'.resolve_left (by simp))) hl) h2 h3 _ h5) (ih h1 h2 h3 _ h5)
  | ifc hc t ihc ih => intro h1 h2 h3 pl' h5; exact .ifc (ihc (fun b hb' hl => h1 b (.inr (hb'.resolve_left (by simp))) hl) h2 h3 _ h5) (ih h1 h2 h3 _ h5)
  | capv h hq t ih => intro h1 h2 h3 pl' h5; exact .capv (h5 _ _ h) hq (ih h1 h2 h3 _ h5)
  | any hu t ih => intro h1 h2 h3 pl' h5; exact .any hu (ih h1 h2 h3 _ h5)
  | grd hc hu t ihc ih => intro h1 h2 h3 pl' h5; exact .grd (fun g => ihc g (fun b hb' hl => h1 b (.inr (hb'.resolve_left (by simp))) hl) h2 h3 _ h5) hu (ih h1 h2 h3 _ h5)

theorem Vals.move (h : Vals w O B pl vs us fp)
    (h1 : ∀ b, (b ∈ fp ∨ ¬ O b) → b < w.heap.size → w'.heap[b]? = w.heap[b]?) (h2 : w.heap.size ≤ w'.heap.size) (h3 : ∀ b, b < w.heap.size → ¬ O b → ¬ O' b) (_ : B' ≤ B) (pl' : Pls) (h5 : ∀ r p, pl r = some p → pl' r = some p) :
    Vals w' O' B' pl' vs us fp := h.shift h1 h2 h3 pl' h5

theorem Vals.length (h : Vals w O B pl vs us fp) : us.length = vs.length := by
  induction h <;> simp_all

/-- One value ahead of the others. -/
theorem Vals.cons {v : AV} {u : Value} (h : Vals w O B pl [v] [u] fp) (t : Vals w O B pl vs us fp') : Vals w O B pl (v :: vs) (u :: us) (fp ++ fp') := by
  cases h with
  | int t' => cases t'; exact .int t
  | bool t' => cases t'; exact .bool t
  | str t' => cases t'; exact .str t
  | nilp t' => cases t'; exact .nilp t
  | nilf t' => cases t'; exact .nilf t
  | nili t' => cases t'; exact .nili t
  | ptr h t' => cases t'; exact .ptr h t
  | fptr hb hl hc ha t' => cases t'; exact .fptr hb hl hc ha t
  | sle hk hc t' => cases t'; exact .sle hk hc t
  | slf hk hx hb hl hz hu ho hc ha hn t' => cases t'; exact .slf hk hx hb hl hz hu ho hc ha hn t
  | slx hx hb hl hz hu ho hc ha t' => cases t'; exact .slx hx hb hl hz hu ho hc ha t
  | owe t' => cases t'; exact .owe t
  | ow hr hl hz hu ho hn hc ha t' =>
    cases t'
    have := Vals.ow (pl := pl) hr hl hz hu ho hn hc ha t
    simpa using this
  | hdr h hn hA t' => cases t'; exact .hdr h hn hA t
  | hdre h t' => cases t'; exact .hdre h t
  | agg ho hc t' => cases t'; simpa using Vals.agg ho hc t
  | tup hc t' => cases t'; simpa using Vals.tup hc t
  | fn hc t' => cases t'; exact .fn hc t
  | mfn hc t' => cases t'; exact .mfn hc t
  | ifc hc t' => cases t'; exact .ifc hc t
  | capv h hq t' => cases t'; exact .capv h hq t
  | any hu t' => cases t'; exact .any hu t
  | grd hc hu t' => cases t'; exact .grd hc hu t

theorem Vals.uncons {v : AV} (h : Vals w O B pl (v :: vs) us fp) : ∃ u us' fp1 fp2, us = u :: us' ∧ fp = fp1 ++ fp2 ∧ Vals w O B pl [v] [u] fp1 ∧ Vals w O B pl vs us' fp2 := by
  cases h with
  | int t => exact ⟨_, _, [], _, rfl, rfl, .int .nil, t⟩
  | bool t => exact ⟨_, _, [], _, rfl, rfl, .bool .nil, t⟩
  | str t => exact ⟨_, _, [], _, rfl, rfl, .str .nil, t⟩
  | nilp t => exact ⟨_, _, [], _, rfl, rfl, .nilp .nil, t⟩
  | nilf t => exact ⟨_, _, [], _, rfl, rfl, .nilf .nil, t⟩
  | nili t => exact ⟨_, _, [], _, rfl, rfl, .nili .nil, t⟩
  | ptr h t => exact ⟨_, _, [], _, rfl, rfl, .ptr h .nil, t⟩
  | fptr hb hl hc ha t => exact ⟨_, _, [], _, rfl, rfl, .fptr hb hl hc ha .nil, t⟩
  | sle hk hc t => exact ⟨_, _, [], _, rfl, rfl, .sle hk hc .nil, t⟩
  | slf hk hx hb hl hz hu ho hc ha hn t => exact ⟨_, _, [], _, rfl, rfl, .slf hk hx hb hl hz hu ho hc ha hn .nil, t⟩
  | slx hx hb hl hz hu ho hc ha t => exact ⟨_, _, [], _, rfl, rfl, .slx hx hb hl hz hu ho hc ha .nil, t⟩
  | owe t => exact ⟨_, _, [], _, rfl, rfl, .owe .nil, t⟩
  | @ow _ sz xs b j cap cs fp1 _ _ fp2 hr hl hz hu ho hn hc ha t =>
    refine ⟨_, _, b :: (fp1 ++ []), fp2, rfl, by simp, .ow hr hl hz hu ho hn hc ha .nil, t⟩
  | hdr h hn hA t => exact ⟨_, _, [], _, rfl, rfl, .hdr h hn hA .nil, t⟩
  | hdre h t => exact ⟨_, _, [], _, rfl, rfl, .hdre h .nil, t⟩
  | @agg _ cs us1 fp1 _ _ fp2 ho hc t => exact ⟨_, _, fp1 ++ [], fp2, rfl, by simp, .agg ho hc .nil, t⟩
  | @tup _ cs us1 fp1 _ _ fp2 hc t => exact ⟨_, _, fp1 ++ [], fp2, rfl, by simp, .tup hc .nil, t⟩
  | fn hc t => exact ⟨_, _, [], _, rfl, rfl, .fn hc .nil, t⟩
  | mfn hc t => exact ⟨_, _, [], _, rfl, rfl, .mfn hc .nil, t⟩
  | ifc hc t => exact ⟨_, _, [], _, rfl, rfl, .ifc hc .nil, t⟩
  | capv h hq t => exact ⟨_, _, [], _, rfl, rfl, .capv h hq .nil, t⟩
  | any hu t => exact ⟨_, _, [], _, rfl, rfl, .any hu .nil, t⟩
  | grd hc hu t => exact ⟨_, _, [], _, rfl, rfl, .grd hc hu .nil, t⟩

theorem Vals.append (h : Vals w O B pl vs us fp) (h' : Vals w O B pl vs' us' fp') : Vals w O B pl (vs ++ vs') (us ++ us') (fp ++ fp') := by
  induction vs generalizing us fp with
  | nil => cases h; simpa using h'
  | cons v vs ih =>
    obtain ⟨u, us1, f1, f2, rfl, rfl, h1, h2⟩ := h.uncons
    rw [List.cons_append, List.cons_append, List.append_assoc]
    exact h1.cons (ih h2)
theorem Vals.unappend (h : Vals w O B pl (vs ++ vs') us fp) : ∃ us1 us2 fp1 fp2, us = us1 ++ us2 ∧ fp = fp1 ++ fp2 ∧ Vals w O B pl vs us1 fp1 ∧ Vals w O B pl vs' us2 fp2 := by
  induction vs generalizing us fp with
  | nil => exact ⟨[], us, [], fp, rfl, rfl, .nil, h⟩
  | cons v vs ih =>
    obtain ⟨u, us1, f1, f2, rfl, rfl, h1, h2⟩ := Vals.uncons h
    obtain ⟨a, b, c, d, rfl, rfl, h3, h4⟩ := ih h2
    exact ⟨u :: a, b, f1 ++ c, d, rfl, by simp, h1.cons h3, h4⟩
/-- Values that own nothing. -/
theorem Vals.uncons0 {v : AV} (h : Vals w O B pl (v :: vs) us []) : ∃ u us', us = u :: us' ∧ Vals w O B pl [v] [u] [] ∧ Vals w O B pl vs us' [] := by
  obtain ⟨u, us', f1, f2, rfl, hf, h1, h2⟩ := h.uncons
  obtain ⟨rfl, rfl⟩ := List.append_eq_nil_iff.1 hf.symm
  exact ⟨u, us', rfl, h1, h2⟩
theorem Vals.unappend0 (h : Vals w O B pl (vs ++ vs') us []) : ∃ us1 us2, us = us1 ++ us2 ∧ Vals w O B pl vs us1 [] ∧ Vals w O B pl vs' us2 [] := by
  obtain ⟨a, b, c, d, rfl, hf, h1, h2⟩ := h.unappend
  obtain ⟨rfl, rfl⟩ := List.append_eq_nil_iff.1 hf.symm
  exact ⟨a, b, rfl, h1, h2⟩
theorem Vals.get0 (h : Vals w O B pl vs us []) (i : Nat) (v : AV) (hv : vs[i]? = some v) : ∃ u, us[i]? = some u ∧ Vals w O B pl [v] [u] [] := by
  induction vs generalizing us i with
  | nil => simp at hv
  | cons x vs ih =>
    obtain ⟨u, us', rfl, h1, h2⟩ := h.uncons0
    cases i with
    | zero => simp at hv; subst hv; exact ⟨u, rfl, h1⟩
    | succ i => simp at hv; obtain ⟨u', h3, h4⟩ := ih h2 i hv; exact ⟨u', by simpa using h3, h4⟩
theorem Vals.take0 (h : Vals w O B pl vs us []) (n : Nat) : Vals w O B pl (vs.take n) (us.take n) [] := by
  have h' : Vals w O B pl (vs.take n ++ vs.drop n) us [] := by rw [List.take_append_drop]; exact h
  obtain ⟨a, b, rfl, h1, h2⟩ := h'.unappend0
  have hl := h1.length
  have hl2 := h2.length
  rw [List.length_take] at hl
  rw [List.length_drop] at hl2
  rcases Nat.lt_or_ge n vs.length with hn | hn
  · rw [List.take_left' (by omega)]; exact h1
  · have hb : b = [] := List.length_eq_zero_iff.1 (by omega)
    subst hb
    have ha : a.take n = a := List.take_of_length_le (by omega)
    rw [List.append_nil, ha]; exact h1
theorem Vals.drop0 (h : Vals w O B pl vs us []) (n : Nat) : Vals w O B pl (vs.drop n) (us.drop n) [] := by
  have h' : Vals w O B pl (vs.take n ++ vs.drop n) us [] := by rw [List.take_append_drop]; exact h
  obtain ⟨a, b, rfl, h1, h2⟩ := h'.unappend0
  have hl := h1.length
  have hl2 := h2.length
  rw [List.length_take] at hl
  rw [List.length_drop] at hl2
  rcases Nat.lt_or_ge n vs.length with hn | hn
  · rw [List.drop_left' (by omega)]; exact h2
  · have hb : b = [] := List.length_eq_zero_iff.1 (by omega)
    subst hb
    have ha : vs.drop n = [] := List.drop_eq_nil_of_le hn
    have hb : a.drop n = [] := List.drop_eq_nil_of_le (by omega)
    rw [List.append_nil, hb, ha]; exact .nil
end
end Go.Amb

namespace Go.Amb
open Go

def chkC : Value → CV → Bool
  | .int k n, .int k' n' => decide (k = k') && decide (n = n')
  | .bool b, .bool b' => b == b'
  | .string s, .str l => decide (s.data.toList = l)
  | .slice none 0 0, .nils => true
  | .pointer none, .nilp => true
  | .nilFunc, .nilf => true
  | .nilIface, .nili => true
  | .func (.func f) a b, .fn g => decide (f = g) && a.isEmpty && b.isEmpty
  | _, _ => false
def chkCs : List Value → List CV → Bool
  | [], [] => true
  | v :: vs, c :: cs => chkC v c && chkCs vs cs
  | _, _ => false
def chkX : Operand → AOpr → Bool
  | .tmp a, .t b => decide (a = b)
  | .const (.agg us), .c (.agg cs) => chkCs us.toList cs
  | .const v, .c c => chkC v c
  | .func f, .c (.fn g) => decide (f = g)
  | _, _ => false
def chkXs : List Operand → List AOpr → Bool
  | [], [] => true
  | x :: xs, y :: ys => chkX x y && chkXs xs ys
  | _, _ => false
def chkXo : Option Operand → Option AOpr → Bool
  | none, none => true
  | some x, some y => chkX x y
  | _, _ => false
def szIs (P : Program) (t : TypeId) (n : Nat) : Bool := (P.info? t).map (·.size) == some n
def aggIs (P : Program) (t : TypeId) (b : Bool) : Bool :=
  match P.underlying t with
  | some (.struct _) | some (.array _ _) => b
  | some _ => !b
  | none => false
def zeroIs (P : Program) (t : TypeId) (agg : Bool) (z : List CV) : Bool :=
  match (P.info? t).bind (·.zero) with
  | some (.agg cs) => agg && chkCs cs.toList z
  | some v => !agg && chkCs [v] z
  | none => false
def elemIs (P : Program) (t : TypeId) : Option TypeId :=
  match P.underlying t with
  | some (.slice e) => some e
  | _ => none
def fieldsIs (P : Program) (t : TypeId) : Option (Array Field) :=
  match P.underlying t with
  | some (.struct fs) => some fs
  | _ => none
def isConst : Operand → Bool
  | .const _ => true
  | _ => false
def constNil : NC → Operand → Bool
  | .p, .const (.pointer none) => true
  | .i, .const .nilIface => true
  | .f, .const .nilFunc => true
  | _, _ => false
def nilTy (P : Program) (t : TypeId) : NC → Bool
  | .p => (match P.underlying t with | some (.pointer _) => true | _ => false)
  | .i => (match P.underlying t with | some (.interface _) => true | _ => false)
  | .f => (match P.underlying t with | some (.func ..) => true | _ => false)
def isRowTy (P : Program) (t : TypeId) : Bool := match P.underlying t with | some (.struct _) => true | _ => false
/-- The kinds of a struct type's cells, where all can be compared by what they hold. -/
def eqGo (P : Program) (r : TypeId → Option (List CK)) : List Field → Nat → Option (List CK)
  | [], _ => some []
  | f :: fs, off =>
    if f.name = "_" || f.offset != off then none else
    match r f.type with
    | some ks => if szIs P f.type ks.length && aggIs P f.type (isRowTy P f.type) then (eqGo P r fs (off + ks.length)).map (ks ++ ·) else none
    | none => none
def eqTy (P : Program) : Nat → TypeId → Option (List CK)
  | 0, _ => none
  | d + 1, t =>
    match P.underlying t with
    | some (.int k) => some [.i k]
    | some .bool => some [.b]
    | some .string => some [.s]
    | some (.struct fs) => if P.stoodInHeld t then none else eqGo P (eqTy P d) fs.toList 0
    | _ => none
def chkParts (P : Program) (fs : Array Field) : List (Nat × Operand) → List (Nat × Nat × AOpr) → Bool
  | [], [] => true
  | (f, x) :: ps, (off, n, y) :: qs => (match fs[f]? with | some fld => decide (fld.offset = off) && szIs P fld.type n | none => false) && chkX x y && chkParts P fs ps qs
  | _, _ => false
def chkIxs : List (Nat × Operand) → List (Nat × AOpr) → Bool
  | [], [] => true
  | (i, x) :: ps, (j, y) :: qs => decide (i = j) && chkX x y && chkIxs ps qs
  | _, _ => false
def bytesIs (P : Program) (t : TypeId) (n : Nat) : Bool := (P.info? t).map (·.bytes) == some n
def zszIs (P : Program) (t : TypeId) (n : Nat) : Bool := ((P.info? t).bind (·.zero)).map (fun z => (z.cells.size, z.cells.all (·.oneCell'))) == some (n, true)
def bodied (P : Program) (f : Nat) : Bool :=
  match P.funcs[f]? with
  | some fn => fn.body.isSome && fn.name != "runtime.NumGoroutine"
  | none => false

/-- The function without a body that compares two strings. -/
def cmpExt (P : Program) (f : Nat) : Bool :=
  match P.funcs[f]? with
  | some fn => fn.body.isNone && fn.name == "internal/bytealg.abigen_runtime_cmpstring" && fn.origin == ""
  | none => false

/-- The function without a body that tells whether two slices overlap. -/
def ovlExt (P : Program) (f : Nat) : Bool :=
  match P.funcs[f]? with
  | some fn => fn.body.isNone && fn.origin == "slices.overlaps" && fn.name != "runtime.NumGoroutine" && (Extern.allNextRows.lookup fn.name).isNone && (Extern.allGenericRows.lookup fn.name).isNone &&
      (Extern.allTypedRows.lookup fn.name).isNone && (Extern.allRows.lookup fn.name).isNone && (match fn.params.toList with | t :: _ => (match elemIs P t with | some e => (P.info? e).isSome | none => false) | _ => false)
  | none => false

def chkCall (P : Program) (c : Call) : AOp → Bool
  | .len s x => (match c.callee, c.args.toList, c.argTypes[0]? with
    | .builtin .len, [y], some t => chkX y x && (match P.underlying t with | some .string => s | some (.slice _) => !s | _ => false)
    | _, _, _ => false)
  | .mx l => (match c.callee with | .builtin .max => chkXs c.args.toList l | _ => false)
  | .mn l => (match c.callee with | .builtin .min => chkXs c.args.toList l | _ => false)
  | .app sz bytes s x => (match c.callee, c.args.toList, c.argTypes.toList with
    | .builtin .append, [y, z], [t, u] => chkX y s && chkX z x && (match elemIs P t with | some e => szIs P e sz && bytesIs P e bytes && zszIs P e sz && decide (0 < sz) | none => false) && (match P.underlying u with | some (.slice _) => true | some .string => true | _ => false)
    | _, _, _ => false)
  | .clr sz ag z x => (match c.callee, c.args.toList, c.argTypes[0]? with
    | .builtin .clear, [y], some t => chkX y x && (match elemIs P t with | some e => szIs P e sz && zeroIs P e ag z && decide (0 < sz) | none => false)
    | _, _, _ => false)
  | .cpy sz d x => (match c.callee, c.args.toList, c.argTypes[0]? with
    | .builtin .copy, [y, z], some t => chkX y d && chkX z x && (match elemIs P t with | some e => szIs P e sz | none => false)
    | _, _, _ => false)
  | .apz sz bytes ag z s x _ => (match c.callee, c.args.toList, c.argTypes.toList with
    | .builtin .append, [y, v], [t, u] => chkX y s && chkX v x && (match elemIs P t with | some e => szIs P e sz && bytesIs P e bytes && zszIs P e sz && zeroIs P e ag z && decide (0 < sz) | none => false) && (match P.underlying u with | some (.int _) => true | _ => false)
    | _, _, _ => false)
  | .cap _ x => (match c.callee, c.args.toList, c.argTypes[0]? with
    | .builtin .cap, [y], some t => chkX y x && (elemIs P t).isSome
    | _, _, _ => false)
  | .ovl x y => (match c.callee, c.args.toList with | .value (.func g), [x', y'] => chkX x' x && chkX y' y && ovlExt P g | _, _ => false)
  | .call f args => (match c.callee with | .value (.func g) => decide (f = g) && chkXs c.args.toList args && bodied P f | _ => false)
  | .cmps x y => (match c.callee, c.args.toList with | .value (.func g), [x', y'] => chkX x' x && chkX y' y && cmpExt P g | _, _ => false)
  | .callv x args => (match c.callee with | .value (.tmp g) => chkX (.tmp g) x && chkXs c.args.toList args | _ => false)
  | _ => false

def chkOp (P : Program) : Op → AOp → Bool
  | .move x, .mov y => chkX x y
  | .assign x, .mov y => chkX x y
  | .pick c a b, .pick c' a' b' => chkX c c' && chkX a a' && chkX b b'
  | .binOp op _ x y _, .bin op' x' y' => decide (op = op') && chkX x x' && chkX y y'
  | .binOp op t x y _, .eqb ng x' y' => decide (op = if ng then .neq else .eql) && (match P.underlying t with | some .bool => true | _ => false) && chkX x x' && chkX y y'
  | .binOp op t x y _, .eqn ng c x' => decide (op = if ng then .neq else .eql) && nilTy P t c && ((constNil c y && chkX x x') || (constNil c x && chkX y x'))
  | .binOp op t x y _, .eqz ng x' => decide (op = if ng then .neq else .eql) && (elemIs P t).isSome && (match y with | .const (.slice none 0 0) => true | _ => false) && chkX x x'
  | .binOp op t x y _, .eqs ng ks x' y' => decide (op = if ng then .neq else .eql) && chkX x x' && chkX y y' && decide (eqTy P 8 t = some ks) && !P.eqGuardType P.depth t && aggIs P t true
  | .unOp .neg _ x, .neg y => chkX x y
  | .unOp .not _ x, .not y => chkX x y
  | .unOp .xor _ x, .com y => chkX x y
  | .alloc t, .alloc sz agg z => zeroIs P t agg z && szIs P t sz
  | .box _ x, .box _ _ y => chkX x y
  | .build t ps, .build z qs => zeroIs P t true z && (match fieldsIs P t with | some fs => chkParts P fs ps.toList qs && fs.toList.all fun f => (P.info? f.type).isSome | none => false)
  | .buildSlice t len ps, .bsl sz agg n z qs => (match elemIs P t with | some e => szIs P e sz && zeroIs P e agg z && chkIxs ps.toList qs | none => false) && decide (len = n)
  | .load t a, .load n agg b => chkX a b && szIs P t n && aggIs P t agg
  | .store t a x, .store n agg b y => chkX a b && chkX x y && szIs P t n && aggIs P t agg
  | .fieldAddr s a f, .fad off b => chkX a b && (match fieldsIs P s with | some fs => (match fs[f]? with | some fld => decide (fld.offset = off) && !szIs P fld.type 0 && (P.info? fld.type).isSome | none => false) | none => false)
  | .indexAddr t x i, .iad sz y j => chkX x y && chkX i j && (match elemIs P t with | some e => szIs P e sz | none => false)
  | .field t x f, .fld off n agg y => chkX x y && (match fieldsIs P t with | some fs => (match fs[f]? with | some fld => decide (fld.offset = off) && szIs P fld.type n && aggIs P fld.type agg | none => false) | none => false)
  | .index t x i, .sidx y j => chkX x y && chkX i j && (match P.underlying t with | some .string => true | _ => false)
  | .slice t x lo hi mx, .slice sz y lo' hi' mx' => chkX x y && chkXo lo lo' && chkXo hi hi' && chkXo mx mx' && (match elemIs P t with | some e => szIs P e sz | none => false)
  | .slice t x (some lo) (some hi) (some mx), .slm y lo' hi' mx' => chkX x y && chkX lo lo' && chkX hi hi' && chkX mx mx' && (elemIs P t).any fun e => (P.info? e).isSome
  | .slice t x lo hi none, .sslice y lo' hi' => chkX x y && chkXo lo lo' && chkXo hi hi' && (match P.underlying t with | some .string => true | _ => false)
  | .convert s t x, .conv k y => chkX x y && (P.underlying s).isSome && (match P.underlying t with | some (.int k') => decide (k = k') | _ => false)
  | .convert s t x, .b2s y => chkX x y && (match elemIs P s with | some e => (match P.underlying e with | some (.int .u8) => true | _ => false) && szIs P e 1 | none => false) && (match P.underlying t with | some .string => true | _ => false)
  | .convert s t x, .s2b y => chkX x y && (match elemIs P t with | some e => (match P.underlying e with | some (.int .u8) => true | _ => false) && szIs P e 1 | none => false) && (match P.underlying s with | some .string => true | _ => false)
  | .extract t i, .ext y j => chkX t y && decide (i = j)
  | .makeFunc (.func f) first caps, .mkf g ys => decide (f = g) && first.isEmpty && chkXs caps.toList ys
  | .makeFunc (.func f) first caps, .mkm g ys => decide (f = g) && caps.isEmpty && chkXs first.toList ys
  | .nilCheck x, .nilc y => chkX x y
  | .makeSlice t l c, .mks sz bytes ag z y => chkX l y && chkX c y && (match elemIs P t with | some e => szIs P e sz && bytesIs P e bytes && zeroIs P e ag z | none => false)
  | .call c, a => chkCall P c a
  | _, .off => true
  | _, _ => false

def chkG (ops : Array Oper) : Option (Nat × Bool) → Option (Nat × Bool) → Bool
  | none, none => true
  | some (j, b), some (s, b') => b == b' && (ops[j]?).bind (·.dst) == some s
  | _, _ => false
def chkD (n : Nat) : Option Nat → Bool
  | some d => decide (d < n)
  | none => true
def chkI (P : Program) (n : Nat) (ops : Array Oper) (o : Oper) (i : AI) : Bool := chkOp P o.op i.op && o.dst == i.dst && chkD n i.dst && chkG ops o.guard i.g
def chkIs (P : Program) (n : Nat) (ops : Array Oper) : List Oper → List AI → Bool
  | [], [] => true
  | o :: os, i :: is => chkI P n ops o i && chkIs P n ops os is
  | _, _ => false
end Go.Amb

namespace Go.Amb
open Go

/-- What stays while a function runs: the program, its temps, the world in which it was entered, what it must not touch, what it may, the roots that it was given. -/
structure Env where
  P : Program
  n : Nat
  w0 : World
  X : Nat → Prop
  G : Nat → Prop
  pl0 : Pls
  nb : Nat

def Own (E : Env) (st : St) (fp : Nat → List Nat) : Nat → Prop := fun b => E.X b ∨ ∃ r, (st.heap r).isSome = true ∧ b ∈ fp r

inductive RootRel (w : World) (O : Nat → Prop) (B : Nat) (pl : Pls) (r : Nat) (blk : Blk) : List Nat → Prop
  | emp {j} (h : pl r = some ⟨none, j, blk.sz, 0⟩) (he : blk.es = []) (hz : 0 < blk.sz) : RootRel w O B pl r blk []
  | blk {b j cap cs fp1} (h : pl r = some ⟨some b, j, blk.sz, cap⟩) (hr : RowAt w b ((j + cap) * blk.sz)) (hl : b < w.heap.size) (hz : 0 < blk.sz) (hu : ∀ x ∈ blk.es, (cellsOf x).length = blk.sz)
      (h1 : ∀ x ∈ flat blk.es, x.one = true) (hn : blk.es.length ≤ cap) (hc : Vals w O B (if blk.box then pl else noPl) (flat blk.es) cs fp1) (ha : At w b (j * blk.sz) cs) : RootRel w O B pl r blk (b :: fp1)

theorem RootRel.inv {w : World} {O : Nat → Prop} {B : Nat} {pl : Pls} {r : Nat} {blk : Blk} {f : List Nat} (h : RootRel w O B pl r blk f) :
    0 < blk.sz ∧ ((∃ j, pl r = some ⟨none, j, blk.sz, 0⟩ ∧ blk.es = [] ∧ f = []) ∨
    ∃ b j cap cs fp1, pl r = some ⟨some b, j, blk.sz, cap⟩ ∧ RowAt w b ((j + cap) * blk.sz) ∧ b < w.heap.size ∧ (∀ x ∈ blk.es, (cellsOf x).length = blk.sz) ∧ (∀ x ∈ flat blk.es, x.one = true) ∧
      blk.es.length ≤ cap ∧ Vals w O B (if blk.box then pl else noPl) (flat blk.es) cs fp1 ∧ At w b (j * blk.sz) cs ∧ f = b :: fp1) := by
  cases h with
  | emp h he hz => exact ⟨hz, .inl ⟨_, h, he, rfl⟩⟩
  | blk h hr hl hz hu h1 hn hc ha => exact ⟨hz, .inr ⟨_, _, _, _, _, h, hr, hl, hu, h1, hn, hc, ha, rfl⟩⟩

structure Keeps (G : Nat → Prop) (w0 w : World) : Prop where
  os : w.os = w0.os
  tape : w.tape = w0.tape
  output : w.output = w0.output
  size : w0.heap.size ≤ w.heap.size
  block : ∀ b, b < w0.heap.size → ¬ G b → w.heap[b]? = w0.heap[b]?

structure RelW (E : Env) (st : St) (a : Act) (w : World) (pl : Pls) (fp : Nat → List Nat) : Prop where
  size : a.tmps.size = E.n
  defers : a.defers = []
  plx : ∀ r, r < E.nb → pl r = E.pl0 r
  unused : ∀ r, st.us r = false → pl r = none
  used : ∀ r, (st.heap r).isSome = true → st.us r = true
  usnb : ∀ r, r < E.nb → st.us r = true
  roots : ∀ r blk, st.heap r = some blk → RootRel w (Own E st fp) E.w0.heap.size pl r blk (fp r)
  nodup : ∀ r, (st.heap r).isSome = true → (fp r).Nodup
  own : ∀ r, (st.heap r).isSome = true → ∀ b ∈ fp r, b < w.heap.size ∧ (E.w0.heap.size ≤ b ∨ E.G b) ∧ ¬ E.X b
  disj : ∀ r r' b, (st.heap r).isSome = true → (st.heap r').isSome = true → r ≠ r' → b ∈ fp r → b ∉ fp r'
  xold : ∀ b, E.X b → b < E.w0.heap.size
  gold : ∀ b, E.G b → b < E.w0.heap.size ∧ ¬ E.X b
  tmps : ∀ d, st.tmp d ≠ .undef → ∃ u, a.tmps[d]? = some u ∧ Vals w (Own E st fp) E.w0.heap.size pl [st.tmp d] [u] []
  keeps : Keeps E.G E.w0 w

def Rel (E : Env) (st : St) (a : Act) (w : World) : Prop := ∃ pl fp, RelW E st a w pl fp

section
variable {w : World} {O : Nat → Prop} {B : Nat} {pl : Pls}

theorem chkC_sound {v : Value} {c : CV} (h : chkC v c = true) : Vals w O B pl [c.av] [v] [] ∧ c.av ≠ .undef ∧ c.av.ok ∧ c.av.strip = c.av ∧ c.av.one = true ∧ (∀ us, v ≠ .agg us) := by
  unfold chkC at h
  split at h
  · simp at h; obtain ⟨rfl, rfl⟩ := h; exact ⟨.int .nil, by simp [CV.av], trivial, rfl, rfl, by simp⟩
  · simp at h; subst h; exact ⟨.bool .nil, by simp [CV.av], trivial, rfl, rfl, by simp⟩
  · rename_i s l
    simp at h
    subst h
    refine ⟨?_, by simp [CV.av], trivial, rfl, rfl, by simp⟩
    show Vals w O B pl [.str ⟨s.data.toList.toArray⟩] [.string s] []
    have e : (⟨s.data.toList.toArray⟩ : ByteArray) = s := by simp
    rw [e]; exact .str .nil
  · exact ⟨.sle rfl (fun _ => rfl) .nil, by simp [CV.av], trivial, rfl, rfl, by simp⟩
  · exact ⟨.nilp .nil, by simp [CV.av], trivial, rfl, rfl, by simp⟩
  · exact ⟨.nilf .nil, by simp [CV.av], trivial, rfl, rfl, by simp⟩
  · exact ⟨.nili .nil, by simp [CV.av], trivial, rfl, rfl, by simp⟩
  · rename_i f a b g
    simp at h
    obtain ⟨⟨rfl, rfl⟩, rfl⟩ := h
    exact ⟨.fn (us1 := []) .nil .nil, by simp [CV.av], trivial, rfl, rfl, by simp⟩
  · cases h

theorem avs_map (cs : List CV) : CV.av.avs cs = cs.map CV.av := by
  induction cs with
  | nil => rfl
  | cons c cs ih => simp [CV.av.avs, ih]

theorem chkCs_sound : ∀ (vs : List Value) (cs : List CV), chkCs vs cs = true → Vals w O B pl (cs.map CV.av) vs [] ∧ (∀ c ∈ cs.map CV.av, c.one = true)
  | [], [], _ => ⟨.nil, by simp⟩
  | v :: vs, c :: cs, h => by
    simp [chkCs] at h
    obtain ⟨h1, _, _, _, h2, _⟩ := chkC_sound (w := w) (O := O) (B := B) (pl := pl) h.1
    obtain ⟨h3, h4⟩ := chkCs_sound vs cs h.2
    exact ⟨h1.cons h3, by simpa [h2] using h4⟩
  | [], _ :: _, h => by simp [chkCs] at h
  | _ :: _, [], h => by simp [chkCs] at h
end

section
variable {E : Env} {st : St} {a : Act} {w : World} {pl : Pls} {fp : Nat → List Nat}

theorem strip_vals {O : Nat → Prop} {B : Nat} {v : AV} {u : Value} (h : Vals w O B pl [v] [u] []) (hv : v.ok) : Vals w O B pl [v.strip] [u] [] := by
  cases v with
  | grd g v =>
    cases h with
    | grd hc hu t => exact hc hv
  | _ => exact h

/-- An operand's value is what its abstract value says. -/
theorem opr_sound (hR : RelW E st a w pl fp) {x : Operand} {y : AOpr} (hc : chkX x y = true) (ho : st.ok y) : Vals w (Own E st fp) E.w0.heap.size pl [st.val y] [a.eval x] [] := by
  unfold chkX at hc
  split at hc
  · rename_i t t'
    simp at hc
    subst hc
    have ho' : (st.tmp t).ok := ho
    have hne : st.tmp t ≠ .undef := by intro e; rw [e] at ho'; exact ho'
    obtain ⟨u, hu, hv⟩ := hR.tmps t hne
    have : a.eval (.tmp t) = u := by simp [Act.eval, Array.getD_eq_getD_getElem?, hu]
    rw [this]
    exact strip_vals hv ho'
  · rename_i us cs
    obtain ⟨h1, h2⟩ := chkCs_sound (w := w) (O := Own E st fp) (B := E.w0.heap.size) (pl := pl) _ _ hc
    show Vals w _ _ pl [(CV.agg cs).av] [.agg us] []
    have : (CV.agg cs).av = .agg (cs.map CV.av) := by simp [CV.av, avs_map]
    rw [this]
    have h3 := Vals.agg (fp := []) h2 h1 .nil
    simpa using h3
  · exact (chkC_sound hc).1
  · rename_i f g
    simp at hc
    subst hc
    exact .fn (us1 := []) .nil .nil
  · cases hc

theorem oprs_sound (hR : RelW E st a w pl fp) : ∀ (xs : List Operand) (ys : List AOpr), chkXs xs ys = true → (∀ y ∈ ys, st.ok y) → Vals w (Own E st fp) E.w0.heap.size pl (ys.map st.val) (xs.map a.eval) []
  | [], [], _, _ => .nil
  | x :: xs, y :: ys, h, ho => by
    simp [chkXs] at h
    exact (opr_sound hR h.1 (ho y (by simp))).cons (oprs_sound hR xs ys h.2 fun y hy => ho y (by simp [hy]))
  | [], _ :: _, h, _ => by simp [chkXs] at h
  | _ :: _, [], h, _ => by simp [chkXs] at h

/-! ### what single values say -/
variable {O : Nat → Prop} {B : Nat} {u : Value} {f1 : List Nat}
theorem inv_int {k n} (h : Vals w O B pl [.int k n] [u] f1) : u = .int k n ∧ f1 = [] := by cases h with | int t => cases t; exact ⟨rfl, rfl⟩
theorem inv_bool {b} (h : Vals w O B pl [.bool b] [u] f1) : u = .bool b ∧ f1 = [] := by cases h with | bool t => cases t; exact ⟨rfl, rfl⟩
theorem inv_str {s} (h : Vals w O B pl [.str s] [u] f1) : u = .string s ∧ f1 = [] := by cases h with | str t => cases t; exact ⟨rfl, rfl⟩
theorem inv_capv {r off q} (h : Vals w O B pl [.capv r off q] [u] f1) : u = .int .i64 q ∧ ∃ p, pl r = some p ∧ q = p.cap - off := by cases h with | capv h hq t => cases t; exact ⟨rfl, _, h, hq⟩
theorem inv_isInt {v : AV} (h : Vals w O B pl [v] [u] f1) (hi : isInt v = true) : ∃ k n, v = .int k n ∧ u = .int k n := by
  cases v with
  | int k n => exact ⟨k, n, rfl, (inv_int h).1⟩
  | _ => simp [isInt] at hi
theorem inv_isBool {v : AV} (h : Vals w O B pl [v] [u] f1) (hi : isBool v = true) : ∃ b, v = .bool b ∧ u = .bool b := by
  cases v with
  | bool b => exact ⟨b, rfl, (inv_bool h).1⟩
  | _ => simp [isBool] at hi
theorem inv_agg {cs : List AV} (h : Vals w O B pl [.agg cs] [u] f1) : ∃ us, u = .agg us.toArray ∧ Vals w O B pl cs us f1 ∧ ∀ c ∈ cs, c.one = true := by
  cases h with
  | agg h1 hc t => cases t; exact ⟨_, rfl, by simpa using hc, h1⟩
theorem inv_tup {cs : List AV} (h : Vals w O B pl [.tup cs] [u] f1) : ∃ us, u = .tuple us.toArray ∧ Vals w O B pl cs us f1 := by
  cases h with
  | tup hc t => cases t; exact ⟨_, rfl, by simpa using hc⟩
/-- A value of one cell is no struct. -/
theorem inv_one {v : AV} (h : Vals w O B pl [v] [u] f1) (h1 : v.one = true) : (∀ us, u ≠ .agg us) ∧ (∀ us, u ≠ .tuple us) := by
  cases h with
  | any hu t => cases t; exact ⟨by rintro us rfl; simp [Value.oneCell'] at hu, by rintro us rfl; simp [Value.oneCell'] at hu⟩
  | _ => simp_all [AV.one]
theorem oneCell_of {v : AV} (h : Vals w O B pl [v] [u] f1) (h1 : v.one = true) : u.oneCell' = true := by
  obtain ⟨h2, h3⟩ := inv_one h h1
  cases u <;> simp_all [Value.oneCell']
theorem cells_of {v : AV} (h : Vals w O B pl [v] [u] f1) (h1 : v.one = true ∨ ∃ cs, v = .agg cs) : Vals w O B pl (cellsOf v) u.cells.toList f1 := by
  rcases h1 with h1 | ⟨cs, rfl⟩
  · have hc : cellsOf v = [v] := by cases v <;> simp_all [cellsOf, AV.one]
    obtain ⟨h2, _⟩ := inv_one h h1
    have hu : u.cells = #[u] := by cases u <;> simp_all [Value.cells]
    rw [hc, hu]; exact h
  · obtain ⟨us, rfl, h2, _⟩ := inv_agg h
    simpa [cellsOf, Value.cells] using h2
theorem vals_oneCell {O : Nat → Prop} {B : Nat} {pl : Pls} : ∀ {vs : List AV} {us : List Value} {f : List Nat}, Vals w O B pl vs us f → (∀ v ∈ vs, v.one = true) → ∀ u ∈ us, u.oneCell' = true
  | [], us, f, h, _ => by cases h; simp
  | v :: vs, us, f, h, h1 => by
    obtain ⟨u, us', f1, f2, rfl, rfl, h2, h3⟩ := h.uncons
    intro x hx
    rcases List.mem_cons.1 hx with rfl | hx
    · exact oneCell_of h2 (h1 v (by simp))
    · exact vals_oneCell h3 (fun y hy => h1 y (by simp [hy])) x hx
end
end Go.Amb

set_option linter.unusedSimpArgs false
set_option linter.unusedVariables false
namespace Go.Amb
open Go

section
variable {E : Env} {st : St} {a : Act} {w : World} {pl : Pls} {fp : Nat → List Nat} {o : Oper} {k : Nat}

/-- The run gives u, and u is what v says. -/
def Gives (E : Env) (st : St) (a : Act) (w : World) (pl : Pls) (fp : Nat → List Nat) (o : Oper) (v : AV) : Prop :=
  ∃ u, (execOp a.eval o).run E.P w = .ok (.value u) w ∧ Vals w (Own E st fp) E.w0.heap.size pl [v] [u] []

theorem g_mov {x : Operand} {y : AOpr} (hR : RelW E st a w pl fp) (ho : o.op = .move x ∨ o.op = .assign x) (hc : chkX x y = true) (hp : pop st k (.mov y)) : Gives E st a w pl fp o (vop st k (.mov y)) := by
  refine ⟨a.eval x, ?_, opr_sound hR hc hp⟩
  rcases ho with ho | ho <;> simp [execOp, ho]

theorem iteV_eq {c : Bool} {x y : AV} (h : iteOk x y) : iteV c x y = if c then x else y := by
  cases x <;> cases y <;> cases c <;> simp_all [iteV, iteOk]

theorem g_pick {c x y : Operand} {c' x' y' : AOpr} (hR : RelW E st a w pl fp) (ho : o.op = .pick c x y) (h1 : chkX c c' = true) (h2 : chkX x x' = true) (h3 : chkX y y' = true)
    (hp : pop st k (.pick c' x' y')) : Gives E st a w pl fp o (vop st k (.pick c' x' y')) := by
  obtain ⟨hc, hb, hx, hy, hi⟩ := hp
  obtain ⟨b, hv, hu⟩ := inv_isBool (opr_sound hR h1 hc) hb
  rw [hv] at hx hy
  refine ⟨if b then a.eval x else a.eval y, ?_, ?_⟩
  · cases b <;> simp [execOp, ho, hu, asBool]
  · simp only [vop, hv, boolOf, iteV_eq hi]
    cases b
    · simpa using opr_sound hR h3 (hy rfl)
    · simpa using opr_sound hR h2 (hx rfl)

theorem run_binOp_int (P : Program) (op : BinOp) (t : TypeId) (k k' : IntKind) (a b : Int) (w : World) (h : binIIok op k k' b) :
    ∃ u, (binOp op t (.int k a) (.int k' b)).run P w = .ok u w ∧ ∀ O B pl, Vals w O B pl [binII op k a b] [u] [] := by
  cases op <;> simp only [binIIok] at h
  case quo => obtain ⟨rfl, h⟩ := h; exact ⟨_, by simp [binOp, Op.intDiv, h], fun _ _ _ => .int .nil⟩
  case rem => obtain ⟨rfl, h⟩ := h; exact ⟨_, by simp [binOp, Op.intDiv, h], fun _ _ _ => .int .nil⟩
  case shl => exact ⟨_, by simp [binOp, Op.shift, show ¬ b < 0 by omega], fun _ _ _ => .int .nil⟩
  case shr => exact ⟨_, by simp [binOp, Op.shift, show ¬ b < 0 by omega], fun _ _ _ => .int .nil⟩
  case and => subst h; exact ⟨_, by simp [binOp, Op.intBits], fun _ _ _ => .int .nil⟩
  case or => subst h; exact ⟨_, by simp [binOp, Op.intBits], fun _ _ _ => .int .nil⟩
  case xor => subst h; exact ⟨_, by simp [binOp, Op.intBits], fun _ _ _ => .int .nil⟩
  case andNot => subst h; exact ⟨_, by simp [binOp, Op.intBits], fun _ _ _ => .int .nil⟩
  case add => subst h; exact ⟨_, by simp [binOp, Op.intArith], fun _ _ _ => .int .nil⟩
  case sub => subst h; exact ⟨_, by simp [binOp, Op.intArith], fun _ _ _ => .int .nil⟩
  case mul => subst h; exact ⟨_, by simp [binOp, Op.intArith], fun _ _ _ => .int .nil⟩
  all_goals (subst h; exact ⟨_, by simp [binOp, Op.intCmp], fun _ _ _ => .bool .nil⟩)

theorem toList_inj {a b : ByteArray} (h : a.toList = b.toList) : a = b := by
  rw [ByteArray.toList_eq, ByteArray.toList_eq] at h
  obtain ⟨⟨x⟩⟩ := a
  obtain ⟨⟨y⟩⟩ := b
  simp at h
  rw [h]
theorem toList_beq (a b : ByteArray) : (a.toList == b.toList) = decide (a = b) := by
  by_cases h : a = b
  · subst h; simp
  · simp only [h, decide_false]
    exact beq_eq_false_iff_ne.2 fun e => h (toList_inj e)

theorem run_binOp_str (P : Program) (op : BinOp) (t : TypeId) (a b : ByteArray) (w : World) (h : binSSok op a b) :
    ∃ u, (binOp op t (.string a) (.string b)).run P w = .ok u w ∧ ∀ O B pl, Vals w O B pl [binSS op a b] [u] [] := by
  cases op <;> simp only [binSSok] at h
  case add =>
    refine ⟨.string (a ++ b), ?_, fun _ _ _ => .str .nil⟩
    have : ¬ (IntKind.i64.max < ((a.size : Int) + (b.size : Int))) := by simp [IntKind.max, IntKind.signed, IntKind.bits]; omega
    simp only [binOp, Op.stringOp, Int.natCast_add, gt_iff_lt, if_neg this, Sem.run_pure]
  all_goals first
    | exact h.elim
    | exact ⟨_, by simp only [binOp, Op.stringOp, toList_beq]; rfl, fun _ _ _ => .bool .nil⟩

theorem eqGuard_not {op : BinOp} {t : TypeId} {x y : Operand} {u v : Value} (h1 : u ≠ .nilIface ∨ v ≠ .nilIface) (h2 : ∀ us, u ≠ .agg us) (P : Program) (w : World) : (eqGuard op t x y u v).run P w = .ok () w := by
  by_cases hop : op = .eql ∨ op = .neq
  · cases u with
    | nilIface => cases v <;> first | (exact absurd rfl (h1.resolve_left (by simp))) | (rcases hop with rfl | rfl <;> rfl)
    | agg us => exact absurd rfl (h2 us)
    | _ => rcases hop with rfl | rfl <;> rfl
  · unfold eqGuard
    cases op <;> first | rfl | simp at hop

theorem g_bin {op : BinOp} {t t' : TypeId} {x y : Operand} {x' y' : AOpr} (hR : RelW E st a w pl fp) (ho : o.op = .binOp op t x y t') (h2 : chkX x x' = true) (h3 : chkX y y' = true)
    (hp : pop st k (.bin op x' y')) : Gives E st a w pl fp o (vop st k (.bin op x' y')) := by
  obtain ⟨hx, hy, hb⟩ := hp
  have vx := opr_sound hR h2 hx
  have vy := opr_sound hR h3 hy
  simp only [vop]
  generalize st.val x' = X at *
  generalize st.val y' = Y at *
  unfold binOk at hb
  split at hb
  · rename_i k m k' n
    have e1 := (inv_int vx).1
    have e2 := (inv_int vy).1
    obtain ⟨u, hr, hv⟩ := run_binOp_int E.P op t k k' m n w hb
    refine ⟨u, ?_, hv _ _ _⟩
    have hg : (eqGuard op t x y (.int k m) (.int k' n)).run E.P w = .ok () w := eqGuard_not (.inl (by simp)) (by simp) _ _
    simp [execOp, ho, e1, e2, hg, hr]
  · rename_i k m r off n
    have e1 := (inv_int vx).1
    have e2 : a.eval y = .int .i64 n := (inv_capv vy).1
    obtain ⟨u, hr, hv⟩ := run_binOp_int E.P op t k .i64 m n w hb
    refine ⟨u, ?_, hv _ _ _⟩
    have hg : (eqGuard op t x y (.int k m) (.int .i64 n)).run E.P w = .ok () w := eqGuard_not (.inl (by simp)) (by simp) _ _
    simp [execOp, ho, e1, e2, hg, hr]
  · rename_i s s'
    have e1 := (inv_str vx).1
    have e2 := (inv_str vy).1
    obtain ⟨u, hr, hv⟩ := run_binOp_str E.P op t s s' w hb
    refine ⟨u, ?_, hv _ _ _⟩
    have hg : (eqGuard op t x y (.string s) (.string s')).run E.P w = .ok () w := eqGuard_not (.inl (by simp)) (by simp) _ _
    simp [execOp, ho, e1, e2, hg, hr]
  · exact hb.elim

theorem g_eqb {op : BinOp} {ng : Bool} {t t' : TypeId} {x y : Operand} {x' y' : AOpr} (hR : RelW E st a w pl fp) (ho : o.op = .binOp op t x y t') (he : op = if ng then .neq else .eql) (ht : E.P.underlying t = some .bool)
    (h2 : chkX x x' = true) (h3 : chkX y y' = true) (hp : pop st k (.eqb ng x' y')) : Gives E st a w pl fp o (vop st k (.eqb ng x' y')) := by
  obtain ⟨hx, hy, hbx, hby⟩ := hp
  obtain ⟨b, e1, e2⟩ := inv_isBool (opr_sound hR h2 hx) hbx
  obtain ⟨c, e3, e4⟩ := inv_isBool (opr_sound hR h3 hy) hby
  have hg : (eqGuard op t x y (.bool b) (.bool c)).run E.P w = .ok () w := eqGuard_not (.inl (by simp)) (by simp) _ _
  refine ⟨.bool (if ng then !(b == c) else (b == c)), ?_, by simpa [vop, e1, e3, cmpV, boolOf] using Vals.bool .nil⟩
  cases ng
  · simp only [Bool.false_eq_true, if_false] at he; subst he
    simp [execOp, ho, e2, e4, hg, binOp, Op.equal, Op.maxDepth, run_equalIn_bool' w _ t b c ht]
  · simp only [if_true] at he; subst he
    simp [execOp, ho, e2, e4, hg, binOp, Op.equal, Op.maxDepth, run_equalIn_bool' w _ t b c ht]

/-- A value that may be nil, and whether it is. -/
inductive NilVal : NC → Value → Bool → Prop
  | p (p : Option Addr) : NilVal .p (.pointer p) p.isNone
  | i0 : NilVal .i .nilIface true
  | i1 (t v) : NilVal .i (.iface t v) false
  | f0 : NilVal .f .nilFunc true
  | f1 (f a b) : NilVal .f (.func f a b) false
def nilOf : NC → Value
  | .p => .pointer none
  | .i => .nilIface
  | .f => .nilFunc
theorem nilVal_of {O : Nat → Prop} {B : Nat} {c : NC} {X : AV} {u : Value} (h : Vals w O B pl [X] [u] []) (hn : nilable c X = true) : NilVal c u (isNil X) := by
  cases X <;> cases c <;> simp [nilable] at hn <;> cases h <;> first
    | exact .p _
    | exact .i0
    | exact .i1 _ _
    | exact .f0
    | exact .f1 _ _ _
theorem nilTy_cases {P : Program} {t : TypeId} {c : NC} (h : nilTy P t c = true) : match c with
    | .p => ∃ e, P.underlying t = some (.pointer e)
    | .i => ∃ e, P.underlying t = some (.interface e)
    | .f => ∃ p r v, P.underlying t = some (.func p r v) := by
  unfold nilTy at h
  cases c <;> dsimp only at h ⊢ <;> split at h <;> first
    | exact ⟨_, by assumption⟩
    | exact ⟨_, _, _, by assumption⟩
    | cases h
theorem equalIn_nil {P : Program} {c : NC} {t : TypeId} {u : Value} {b : Bool} (ht : nilTy P t c = true) (h : NilVal c u b) (d : Nat) (w : World) :
    (Op.equalIn (d + 1) t u (nilOf c)).run P w = .ok b w ∧ (Op.equalIn (d + 1) t (nilOf c) u).run P w = .ok b w := by
  have ht' := nilTy_cases ht
  cases h with
  | p q =>
    obtain ⟨e, hu⟩ := ht'
    cases q <;> simp [nilOf, Op.equalIn, run_underlying hu]
  | i0 => obtain ⟨e, hu⟩ := ht'; simp [nilOf, Op.equalIn, run_underlying hu]
  | i1 x y => obtain ⟨e, hu⟩ := ht'; simp [nilOf, Op.equalIn, run_underlying hu]
  | f0 => obtain ⟨p, r, v, hu⟩ := ht'; simp [nilOf, Op.equalIn, run_underlying hu]
  | f1 x y z => obtain ⟨p, r, v, hu⟩ := ht'; simp [nilOf, Op.equalIn, run_underlying hu]
theorem equal_nil {P : Program} {c : NC} {t : TypeId} {u : Value} {b : Bool} (ht : nilTy P t c = true) (h : NilVal c u b) (w : World) :
    (Op.equal t u (nilOf c)).run P w = .ok b w ∧ (Op.equal t (nilOf c) u).run P w = .ok b w := equalIn_nil ht h 9999 w
theorem constNil_eval {c : NC} {y : Operand} (h : constNil c y = true) (a : Act) : a.eval y = nilOf c ∧ ∃ v, y = .const v := by
  unfold constNil at h
  split at h
  · exact ⟨rfl, _, rfl⟩
  · exact ⟨rfl, _, rfl⟩
  · exact ⟨rfl, _, rfl⟩
  · cases h
theorem eqGuard_const {P : Program} {op : BinOp} {t : TypeId} {x y : Operand} {u v : Value} (h : (∃ v, x = .const v) ∨ ∃ v, y = .const v) (h2 : ∀ us, u ≠ .agg us) (w : World) :
    (eqGuard op t x y u v).run P w = .ok () w := by
  by_cases hop : op = .eql ∨ op = .neq
  · cases u with
    | nilIface =>
      cases v with
      | nilIface =>
        rcases h with ⟨v, rfl⟩ | ⟨v, rfl⟩
        · rcases hop with rfl | rfl <;> rfl
        · cases x <;> rcases hop with rfl | rfl <;> rfl
      | _ => rcases hop with rfl | rfl <;> rfl
    | agg us => exact absurd rfl (h2 us)
    | _ => rcases hop with rfl | rfl <;> rfl
  · unfold eqGuard
    cases op <;> first | rfl | simp at hop
theorem binOp_equal {P : Program} {t : TypeId} {c : NC} {u v : Value} {b b' : Bool} (hu : NilVal c u b) (hv : NilVal c v b') (r : Bool) (w : World) (h : (Op.equal t u v).run P w = .ok r w) :
    (binOp .eql t u v).run P w = .ok (.bool r) w ∧ (binOp .neq t u v).run P w = .ok (.bool (!r)) w := by
  cases hu <;> cases hv <;> simp [binOp, h]
theorem nilVal_nil (c : NC) : NilVal c (nilOf c) true := by
  cases c
  · exact .p none
  · exact .i0
  · exact .f0

theorem g_eqn {op : BinOp} {ng : Bool} {c : NC} {t t' : TypeId} {x y : Operand} {x' : AOpr} (hR : RelW E st a w pl fp) (ho : o.op = .binOp op t x y t') (he : op = if ng then .neq else .eql) (ht : nilTy E.P t c = true)
    (h2 : (constNil c y && chkX x x' || constNil c x && chkX y x') = true) (hp : pop st k (.eqn ng c x')) : Gives E st a w pl fp o (vop st k (.eqn ng c x')) := by
  obtain ⟨hx, hn⟩ := hp
  simp only [Bool.or_eq_true, Bool.and_eq_true] at h2
  have fin : ∀ u v, a.eval x = u → a.eval y = v → (eqGuard op t x y u v).run E.P w = .ok () w → (binOp .eql t u v).run E.P w = .ok (.bool (isNil (st.val x'))) w ∧ (binOp .neq t u v).run E.P w = .ok (.bool (!isNil (st.val x'))) w →
      Gives E st a w pl fp o (vop st k (.eqn ng c x')) := by
    intro u v e1 e2 hg ⟨h1, h2⟩
    refine ⟨.bool (if ng then !isNil (st.val x') else isNil (st.val x')), ?_, Vals.bool .nil⟩
    cases ng
    · simp only [Bool.false_eq_true, if_false] at he; subst he
      simp [execOp, ho, e1, e2, hg, h1]
    · simp only [if_true] at he; subst he
      simp [execOp, ho, e1, e2, hg, h2]
  rcases h2 with ⟨hc, hz⟩ | ⟨hc, hz⟩
  · have hu := nilVal_of (opr_sound hR hz hx) hn
    obtain ⟨e, hcon⟩ := constNil_eval hc a
    refine fin _ _ rfl e (eqGuard_const (.inr hcon) (by intro us e; rw [e] at hu; cases hu) _) (binOp_equal hu (nilVal_nil c) _ _ (equal_nil ht hu _).1)
  · have hu := nilVal_of (opr_sound hR hz hx) hn
    obtain ⟨e, hcon⟩ := constNil_eval hc a
    refine fin _ _ e rfl (eqGuard_const (.inl hcon) (by intro us e; cases c <;> cases e) _) (binOp_equal (nilVal_nil c) hu _ _ (equal_nil ht hu _).2)

theorem g_neg {t : TypeId} {x : Operand} {x' : AOpr} (hR : RelW E st a w pl fp) (ho : o.op = .unOp .neg t x) (h2 : chkX x x' = true) (hp : pop st k (.neg x')) : Gives E st a w pl fp o (vop st k (.neg x')) := by
  obtain ⟨kk, n, e1, e2⟩ := inv_isInt (opr_sound hR h2 hp.1) hp.2
  exact ⟨.int kk (kk.wrap (0 - n)), by simp [execOp, ho, e2, Op.unary, Op.intArith], by simp only [vop, e1]; exact .int .nil⟩
theorem g_not {t : TypeId} {x : Operand} {x' : AOpr} (hR : RelW E st a w pl fp) (ho : o.op = .unOp .not t x) (h2 : chkX x x' = true) (hp : pop st k (.not x')) : Gives E st a w pl fp o (vop st k (.not x')) := by
  obtain ⟨b, e1, e2⟩ := inv_isBool (opr_sound hR h2 hp.1) hp.2
  exact ⟨.bool !b, by simp [execOp, ho, e2, Op.unary], by simp only [vop, e1]; exact .bool .nil⟩
theorem g_com {t : TypeId} {x : Operand} {x' : AOpr} (hR : RelW E st a w pl fp) (ho : o.op = .unOp .xor t x) (h2 : chkX x x' = true) (hp : pop st k (.com x')) : Gives E st a w pl fp o (vop st k (.com x')) := by
  obtain ⟨kk, n, e1, e2⟩ := inv_isInt (opr_sound hR h2 hp.1) hp.2
  exact ⟨_, by simp only [execOp, ho, e2, Op.unary, Op.intBits, Sem.run_bind, Sem.run_pure, Result.andThen_ok]; rfl, by simp only [vop, e1]; exact .int .nil⟩
theorem g_conv {s t : TypeId} {kk : IntKind} {x : Operand} {x' : AOpr} (hR : RelW E st a w pl fp) (ho : o.op = .convert s t x) (hs : ∃ d, E.P.underlying s = some d) (ht : E.P.underlying t = some (.int kk)) (h2 : chkX x x' = true) (hp : pop st k (.conv kk x')) :
    Gives E st a w pl fp o (vop st k (.conv kk x')) := by
  obtain ⟨k2, n, e1, e2⟩ := inv_isInt (opr_sound hR h2 hp.1) hp.2
  obtain ⟨d, hs⟩ := hs
  refine ⟨.int kk (kk.wrap n), ?_, by simp only [vop, e1, intOf']; exact .int .nil⟩
  simp only [execOp, ho, e2, convert, Sem.run_bind, run_underlying hs, run_underlying ht, Result.andThen_ok]
  cases d <;> simp [Conv.intToInt]
theorem g_ext {x : Operand} {x' : AOpr} {i : Nat} (hR : RelW E st a w pl fp) (ho : o.op = .extract x i) (h2 : chkX x x' = true) (hp : pop st k (.ext x' i)) : Gives E st a w pl fp o (vop st k (.ext x' i)) := by
  obtain ⟨hx, hm⟩ := hp
  have hv := opr_sound hR h2 hx
  simp only [vop]
  split at hm
  · rename_i vs e
    rw [e] at hv
    obtain ⟨us, e2, h3⟩ := inv_tup hv
    obtain ⟨u, h4, h5⟩ := h3.get0 i (vs[i]) (List.getElem?_eq_getElem hm)
    refine ⟨u, by simp [execOp, ho, e2, Instr.extract, h4], ?_⟩
    simp only [List.getD_eq_getElem?_getD, List.getElem?_eq_getElem hm, Option.getD_some]
    exact h5
  · exact hm.elim
theorem g_mkf {f : Nat} {caps : Array Operand} {ys : List AOpr} (hR : RelW E st a w pl fp) (ho : o.op = .makeFunc (.func f) #[] caps) (h2 : chkXs caps.toList ys = true) (hp : pop st k (.mkf f ys)) :
    Gives E st a w pl fp o (vop st k (.mkf f ys)) := by
  have hv := oprs_sound hR _ _ h2 (fun y hy => (hp y hy).1)
  refine ⟨.func (.func f) #[] (caps.map a.eval), by simp [execOp, ho, Instr.makeFunc], ?_⟩
  have e : caps.map a.eval = (caps.toList.map a.eval).toArray := by apply Array.ext'; simp
  rw [e]
  exact .fn hv .nil
theorem g_mkm {f : Nat} {bnd : Array Operand} {ys : List AOpr} (hR : RelW E st a w pl fp) (ho : o.op = .makeFunc (.func f) bnd #[]) (h2 : chkXs bnd.toList ys = true) (hp : pop st k (.mkm f ys)) :
    Gives E st a w pl fp o (vop st k (.mkm f ys)) := by
  have hv := oprs_sound hR _ _ h2 (fun y hy => (hp y hy).1)
  refine ⟨.func (.func f) (bnd.map a.eval) #[], by simp [execOp, ho, Instr.makeFunc], ?_⟩
  have e : bnd.map a.eval = (bnd.toList.map a.eval).toArray := by apply Array.ext'; simp
  rw [e]
  exact .mfn hv .nil
theorem g_nilc {x : Operand} {x' : AOpr} (hR : RelW E st a w pl fp) (ho : o.op = .nilCheck x) (h2 : chkX x x' = true) (hp : pop st k (.nilc x')) : Gives E st a w pl fp o (vop st k (.nilc x')) := by
  obtain ⟨hx, hm⟩ := hp
  have hv := opr_sound hR h2 hx
  refine ⟨a.eval x, ?_, hv⟩
  revert hv hm
  generalize st.val x' = X
  generalize hu : a.eval x = u
  intro hm hv
  cases X <;> first | exact hm.elim | (cases hv; simp [execOp, ho, hu])
end
end Go.Amb

set_option linter.unusedSimpArgs false
set_option linter.unusedVariables false
namespace Go.Amb
open Go

theorem flat_nil : flat [] = [] := rfl
theorem flat_cons (x : AV) (xs : List AV) : flat (x :: xs) = cellsOf x ++ flat xs := by simp [flat]
theorem flat_append (xs ys : List AV) : flat (xs ++ ys) = flat xs ++ flat ys := by simp [flat]
theorem flat_length {xs : List AV} {sz : Nat} (h : ∀ x ∈ xs, (cellsOf x).length = sz) : (flat xs).length = xs.length * sz := by
  induction xs with
  | nil => simp [flat]
  | cons x xs ih =>
    rw [flat_cons, List.length_append, h x (by simp), ih (fun y hy => h y (by simp [hy])), List.length_cons, Nat.add_mul, Nat.one_mul]
    omega
theorem split_at {α : Type} (xs : List α) (i : Nat) (h : i < xs.length) : xs = xs.take i ++ xs[i] :: xs.drop (i + 1) := by
  rw [List.getElem_cons_drop, List.take_append_drop]

section
variable {w : World} {O : Nat → Prop} {B : Nat} {pl : Pls} {vs : List AV} {us : List Value} {fp : List Nat}

theorem shr_fp (h : Vals w O B pl vs us fp) (hs : ∀ v ∈ vs, v.shr = true) : fp = [] := by
  induction vs generalizing us fp with
  | nil => cases h; rfl
  | cons v vs ih =>
    obtain ⟨u, us', f1, f2, rfl, rfl, h1, h2⟩ := h.uncons
    rw [ih h2 (fun x hx => hs x (by simp [hx]))]
    have hv := hs v (by simp)
    clear h hs ih h2
    cases h1 <;> first
      | (rename_i t; cases t; rfl)
      | (simp [AV.shr, AV.one] at hv; done)
theorem shr_one {v : AV} (h : v.shr = true) : v.one = true := by
  cases v with
  | sl k xs => rfl
  | _ => simpa [AV.shr] using h

/-- Any placing will do for what is closed. -/
theorem Vals.anyPl (h : Vals w O B noPl vs us fp) : Vals w O B pl vs us fp :=
  h.move (fun _ _ _ => rfl) (Nat.le_refl _) (fun _ _ h => h) (Nat.le_refl _) pl (fun r p hp => by simp [noPl] at hp)

theorem At.drop {b p : Nat} {cs ds : List Value} (h : At w b p (cs ++ ds)) : At w b (p + cs.length) ds := by
  intro k v hk
  have := h (cs.length + k) v (by rw [List.getElem?_append_right (by omega)]; simpa using hk)
  rwa [show p + (cs.length + k) = p + cs.length + k by omega] at this
theorem At.take {b p : Nat} {cs ds : List Value} (h : At w b p (cs ++ ds)) : At w b p cs := by
  intro k v hk
  exact h k v (by rw [List.getElem?_append_left (List.getElem?_eq_some_iff.1 hk).1]; exact hk)
theorem At.append {b p : Nat} {cs ds : List Value} (h : At w b p cs) (h' : At w b (p + cs.length) ds) : At w b p (cs ++ ds) := by
  intro k v hk
  rcases Nat.lt_or_ge k cs.length with hlt | hge
  · exact h k v (by rw [List.getElem?_append_left hlt] at hk; exact hk)
  · rw [List.getElem?_append_right hge] at hk
    have := h' (k - cs.length) v hk
    rwa [show p + cs.length + (k - cs.length) = p + k by omega] at this

/-- The cells of one element inside a row. -/
theorem elem_cells {xs : List AV} {sz b p : Nat} {cs : List Value} (hu : ∀ x ∈ xs, (cellsOf x).length = sz) (hc : Vals w O B pl (flat xs) cs fp) (ha : At w b p cs) (i : Nat) (hi : i < xs.length) :
    ∃ ds f1 f2 f3, fp = f1 ++ (f2 ++ f3) ∧ Vals w O B pl (cellsOf xs[i]) ds f2 ∧ At w b (p + i * sz) ds := by
  have e : flat xs = flat (xs.take i) ++ (cellsOf xs[i] ++ flat (xs.drop (i + 1))) := by
    conv => lhs; rw [split_at xs i hi]
    rw [flat_append, flat_cons]
  rw [e] at hc
  obtain ⟨c1, c2, f1, f2, rfl, rfl, h1, h2⟩ := hc.unappend
  obtain ⟨c3, c4, f3, f4, rfl, rfl, h3, h4⟩ := h2.unappend
  have hl : c1.length = i * sz := by
    rw [h1.length, flat_length (sz := sz) (fun x hx => hu x (List.mem_of_mem_take hx)), List.length_take]
    rw [Nat.min_eq_left (by omega)]
  refine ⟨c3, f1, f3, f4, rfl, h3, ?_⟩
  rw [← hl]
  exact ha.drop.take

/-- Some cells of an element. -/
theorem sub_cells {cells : List AV} {b p o n : Nat} {ds : List Value} (hc : Vals w O B pl cells ds fp) (ha : At w b p ds) (hn : o + n ≤ cells.length) (hs : ∀ c ∈ (cells.drop o).take n, c.shr = true) :
    ∃ es, es.length = n ∧ Vals w O B pl ((cells.drop o).take n) es [] ∧ At w b (p + o) es := by
  have e : cells = cells.take o ++ ((cells.drop o).take n ++ (cells.drop o).drop n) := by rw [List.take_append_drop, List.take_append_drop]
  rw [e] at hc
  obtain ⟨c1, c2, f1, f2, rfl, rfl, h1, h2⟩ := hc.unappend
  obtain ⟨c3, c4, f3, f4, rfl, rfl, h3, h4⟩ := h2.unappend
  have hl : c1.length = o := by rw [h1.length, List.length_take]; omega
  have hl3 : c3.length = n := by rw [h3.length, List.length_take, List.length_drop]; omega
  have hf : f3 = [] := shr_fp h3 hs
  subst hf
  refine ⟨c3, hl3, h3, ?_⟩
  rw [← hl]
  exact ha.drop.take
end

section
variable {E : Env} {st : St} {a : Act} {w : World} {pl : Pls} {fp : Nat → List Nat} {o : Oper} {k : Nat}

theorem blk_eq {r : Nat} {b : Blk} (h : st.heap r = some b) : st.blk r = b := by simp [St.blk, h]
theorem elemAt_eq {xs : List AV} {i : Nat} (h : i < xs.length) : elemAt xs i = xs[i] := by simp [elemAt, List.getD_eq_getElem?_getD, List.getElem?_eq_getElem h]

/-- What lies at an address, in memory. -/
theorem there_sound (hR : RelW E st a w pl fp) {A : AV} {u : Value} {n : Nat} (hv : Vals w (Own E st fp) E.w0.heap.size pl [A] [u] []) (ht : st.thereOk n A) (hs : ∀ c ∈ (st.there A).take n, c.shr = true) :
    ∃ b q cs, u = .pointer (some ⟨b, q, none⟩) ∧ cs.length = n ∧ At w b q cs ∧ Vals w (Own E st fp) E.w0.heap.size pl ((st.there A).take n) cs [] := by
  unfold St.thereOk at ht
  split at ht
  · rename_i r i off
    obtain ⟨h1, h2, h3⟩ := ht
    obtain ⟨blk, hb⟩ := Option.isSome_iff_exists.1 h1
    rw [blk_eq hb] at h2 h3
    have hrr := hR.roots r blk hb
    cases hv with
    | @ptr _ _ _ _ b' j' sz' cap' _ _ _ hp t =>
      obtain ⟨hz, ⟨j, h, he, -⟩ | ⟨b, j, cap, cs, fp1, h, hr, hl, hu, ho, hn, hc, ha, -⟩⟩ := hrr.inv
      · rw [he] at h2; simp at h2
      · rw [h] at hp
        injection hp with hp
        injection hp with e1 e2 e3 e4
        injection e1 with e1
        subst e1 e2 e3 e4
        obtain ⟨ds, f1, f2, f3, hf, hc2, ha2⟩ := elem_cells hu hc ha i h2
        have hth : st.there (.ptr r i off) = (cellsOf blk.es[i]).drop off := by simp [St.there, blk_eq hb, elemAt_eq h2]
        rw [hth] at hs ⊢
        rw [elemAt_eq h2] at h3
        obtain ⟨es, hl2, hc3, ha3⟩ := sub_cells hc2 ha2 h3 hs
        refine ⟨b, _, es, rfl, hl2, ?_, ?_⟩
        · rw [Nat.add_mul]; exact ha3
        · cases hbx : blk.box with
          | true => simpa [hbx] using hc3
          | false => rw [hbx] at hc3; exact hc3.anyPl
  · rename_i x off
    cases hv with
    | @fptr _ _ _ b p cs _ _ _ hb hl hc ha t =>
      obtain ⟨es, hl2, hc3, ha3⟩ := sub_cells hc ha ht (by simpa [St.there] using hs)
      exact ⟨b, _, es, rfl, hl2, ha3, hc3⟩
  · exact ht.elim

theorem aggIs_true {P : Program} {t : TypeId} (h : aggIs P t true = true) : ∃ d, P.underlying t = some d ∧ d.isRow = true := by
  unfold aggIs at h
  split at h
  · exact ⟨_, by assumption, rfl⟩
  · exact ⟨_, by assumption, rfl⟩
  · cases h
  · cases h
theorem aggIs_false {P : Program} {t : TypeId} (h : aggIs P t false = true) : ∃ d, P.underlying t = some d ∧ d.isRow = false := by
  unfold aggIs at h
  split at h
  · cases h
  · cases h
  · rename_i d h1 h2 h3
    refine ⟨d, by assumption, ?_⟩
    cases d <;> first | rfl | simp_all
  · cases h
theorem szIs_eq {P : Program} {t : TypeId} {n : Nat} (h : szIs P t n = true) : (P.info? t).map (·.size) = some n := by simpa [szIs] using h
theorem run_isAgg {P : Program} {t : TypeId} {d : TypeDesc} (h : P.underlying t = some d) (w : World) : (isAgg t).run P w = .ok d.isRow w := by
  unfold isAgg
  rw [Sem.run_bind, run_underlying h w]
  cases d <;> simp [TypeDesc.isRow]
theorem run_sizeOf' {P : Program} {t : TypeId} {n : Nat} (h : szIs P t n = true) (w : World) : (sizeOf t).run P w = .ok n w := by
  have := szIs_eq h
  cases hq : P.info? t with
  | none => simp [hq] at this
  | some i => simp [hq] at this; simp [sizeOf, typeInfo, hq, this]

theorem g_load {t : TypeId} {n : Nat} {ag : Bool} {x : Operand} {x' : AOpr} (hR : RelW E st a w pl fp) (ho : o.op = .load t x) (h2 : chkX x x' = true) (hz : szIs E.P t n = true) (hg : aggIs E.P t ag = true)
    (hp : pop st k (.load n ag x')) : Gives E st a w pl fp o (vop st k (.load n ag x')) := by
  obtain ⟨hx, ht, hn, hs⟩ := hp
  obtain ⟨b, q, cs, hu, hl, ha, hc⟩ := there_sound hR (opr_sound hR h2 hx) ht hs
  have hone : ∀ c ∈ (st.there (st.val x')).take n, c.one = true := fun c hc => shr_one (hs c hc)
  cases ag with
  | true =>
    obtain ⟨d, hd, hrow⟩ := aggIs_true hg
    refine ⟨.agg cs.toArray, ?_, ?_⟩
    · simp [execOp, ho, hu, Instr.loadAt, Instr.sureAddr, run_loadVar_mid w b q t cs d ha hd hrow (by rw [hl]; exact szIs_eq hz)]
    · simp only [vop, asVar, if_true]
      have := Vals.agg (fp := []) hone hc .nil
      simpa using this
  | false =>
    obtain ⟨d, hd, hrow⟩ := aggIs_false hg
    have hn1 := hn rfl
    subst hn1
    have hcl := hc.length
    rw [hl] at hcl
    obtain ⟨v, hv⟩ := List.length_eq_one_iff.1 hcl.symm
    obtain ⟨u, hu1⟩ := List.length_eq_one_iff.1 hl
    subst hu1
    have hcell : w.cell? ⟨b, q, none⟩ = some u := by simpa using ha 0 u rfl
    refine ⟨u, ?_, ?_⟩
    · simp [execOp, ho, hu, Instr.loadAt, Instr.sureAddr, loadVar, run_isAgg hd, hrow, run_load, hcell]
    · rw [hv] at hc
      simp only [vop, asVar, Bool.false_eq_true, if_false]
      cases hth : st.there (st.val x') with
      | nil => rw [hth] at hv; simp at hv
      | cons z zs =>
        rw [hth] at hv
        simp at hv
        subst hv
        simpa using hc
end
end Go.Amb

set_option linter.unusedSimpArgs false
set_option linter.unusedVariables false
namespace Go.Amb
open Go

section
variable {E : Env} {st : St} {a : Act} {w : World} {pl : Pls} {fp : Nat → List Nat} {o : Oper} {k : Nat}

theorem elemIs_eq {P : Program} {t e : TypeId} (h : elemIs P t = some e) : P.underlying t = some (.slice e) := by
  unfold elemIs at h
  split at h
  · injection h with h; subst h; assumption
  · cases h
theorem fieldsIs_eq {P : Program} {t : TypeId} {fs : Array Field} (h : fieldsIs P t = some fs) : P.underlying t = some (.struct fs) := by
  unfold fieldsIs at h
  split at h
  · injection h with h; subst h; assumption
  · cases h

theorem g_fad {s : TypeId} {f off : Nat} {x : Operand} {x' : AOpr} {fs : Array Field} {fld : Field} (hR : RelW E st a w pl fp) (ho : o.op = .fieldAddr s x f) (h2 : chkX x x' = true)
    (hs : fieldsIs E.P s = some fs) (hf : fs[f]? = some fld) (hoff : fld.offset = off) (hz : szIs E.P fld.type 0 = false) (hi : (E.P.info? fld.type).isSome = true) (hp : pop st k (.fad off x')) :
    Gives E st a w pl fp o (vop st k (.fad off x')) := by
  obtain ⟨hx, hm⟩ := hp
  have hv := opr_sound hR h2 hx
  obtain ⟨i, hi⟩ := Option.isSome_iff_exists.1 hi
  have hsz : ∃ m, szIs E.P fld.type m = true ∧ m ≠ 0 := ⟨i.size, by simp [szIs, hi], by intro e; simp [szIs, hi, e] at hz⟩
  obtain ⟨m, hm1, hm2⟩ := hsz
  have hrun : ∀ ad : Addr, (Instr.fieldAt s (.pointer (some ad)) f).run E.P w = .ok (.pointer (some (ad.add off))) w := by
    intro ad
    simp [Instr.fieldAt, run_underlying (fieldsIs_eq hs), hf, Instr.sureAddr, fieldPlace, run_sizeOf' hm1, hm2, hoff]
  simp only [vop]
  revert hv hm
  generalize st.val x' = X
  generalize hu : a.eval x = u
  intro hm hv
  cases X <;> first | exact hm.elim | skip
  · cases hv with
    | ptr h t =>
      refine ⟨_, by simp only [execOp, ho, hu, Sem.run_bind, hrun, Result.andThen_ok]; rfl, ?_⟩
      rw [Addr.add_mid, Nat.add_assoc]
      exact .ptr h .nil
  · cases hv with
    | fptr hb hl hc ha t =>
      refine ⟨_, by simp only [execOp, ho, hu, Sem.run_bind, hrun, Result.andThen_ok]; rfl, ?_⟩
      rw [Addr.add_mid, Nat.add_assoc]
      exact .fptr hb hl hc ha .nil

/-- An element of a row that is read only, by its place. -/
theorem elem_ptr {O : Nat → Prop} {B : Nat} {xs : List AV} {sz b p : Nat} {cs : List Value} (hb : ¬ O b) (hl : b < w.heap.size) (hu : ∀ x ∈ xs, (cellsOf x).length = sz) (hc : Vals w O B pl (flat xs) cs []) (ha : At w b p cs)
    (i : Nat) (hi : i < xs.length) : Vals w O B pl [.fptr (elemAt xs i) 0] [.pointer (some ⟨b, p + i * sz, none⟩)] [] := by
  obtain ⟨ds, f1, f2, f3, hf, hc2, ha2⟩ := elem_cells hu hc ha i hi
  have h2 : f2 = [] := by
    have := List.append_eq_nil_iff.1 hf.symm
    exact (List.append_eq_nil_iff.1 this.2).1
  subst h2
  rw [elemAt_eq hi]
  exact Vals.fptr (o := 0) hb hl hc2 ha2 .nil

theorem run_indexAt {P : Program} {t e : TypeId} {sz : Nat} (hs : elemIs P t = some e) (hz : szIs P e sz = true) (A : Addr) (n c : Nat) (kk : IntKind) (i : Int) (h0 : 0 ≤ i) (h1 : i < n) (w : World) :
    (Instr.indexAt t (.slice (some A) n c) (.int kk i)).run P w = .ok (.pointer (some (A.add (i.toNat * sz)))) w := by
  have hcond : 0 ≤ i ∧ i < (n : Int) := ⟨h0, h1⟩
  simp [Instr.indexAt, asIntOf, run_underlying (elemIs_eq hs), hcond, run_sizeOf' hz]

theorem g_iad {t e : TypeId} {sz : Nat} {x y : Operand} {x' y' : AOpr} (hR : RelW E st a w pl fp) (ho : o.op = .indexAddr t x y) (h2 : chkX x x' = true) (h3 : chkX y y' = true) (hs : elemIs E.P t = some e) (hz : szIs E.P e sz = true)
    (hp : pop st k (.iad sz x' y')) : Gives E st a w pl fp o (vop st k (.iad sz x' y')) := by
  obtain ⟨hx, hy, hi, h0, hm⟩ := hp
  have hv := opr_sound hR h2 hx
  obtain ⟨kk, i, e1, e2⟩ := inv_isInt (opr_sound hR h3 hy) hi
  have hroots := hR.roots
  simp only [vop]
  rw [e1] at h0 hm ⊢
  simp only [intOf'] at h0 hm ⊢
  revert hv hm
  generalize st.val x' = X
  generalize hu : a.eval x = u
  intro hv hm
  have hex : ∀ A n c, u = .slice (some A) n c → i < n → (execOp a.eval o).run E.P w = .ok (.value (.pointer (some (A.add (i.toNat * sz))))) w := by
    intro A n c hu' hn
    subst hu'
    simp only [execOp, ho, hu, e2, Sem.run_bind, run_indexAt hs hz A n c kk i h0 hn, Result.andThen_ok]
    rfl
  cases X <;> first | exact hm.elim | skip
  · rename_i K xs
    obtain ⟨hk, hlt, hsz⟩ := hm
    have hlt' : i.toNat < xs.length := by omega
    rw [elemAt_eq hlt'] at hsz
    cases hv with
    | sle hk hc t => simp at hlt'
    | slf hk hx hb hl hz' hu' h1 hc ha hn t =>
      have hsz' := hu' _ (List.getElem_mem hlt')
      refine ⟨_, hex _ _ _ rfl hlt, ?_⟩
      rw [Addr.add_mid, ← hsz, hsz']
      exact elem_ptr hb hl hu' hc.anyPl ha _ hlt'
    | slx hx hb hl hz' hu' h1 hc ha t =>
      have hsz' := hu' _ (List.getElem_mem hlt')
      refine ⟨_, hex _ _ _ rfl hlt, ?_⟩
      rw [Addr.add_mid, ← hsz, hsz']
      exact elem_ptr hb hl hu' hc ha _ hlt'
    | owe t => simp at hlt'
  · rename_i r off n
    obtain ⟨hlt, hr, hsz⟩ := hm
    cases hv with
    | @hdr _ _ _ _ b j sz' cap A _ _ _ h hn hA t =>
      rcases hA with rfl | hcap
      · refine ⟨_, hex _ _ _ rfl hlt, ?_⟩
        have hszz : sz' = sz := by
          obtain ⟨blk, hb⟩ := Option.isSome_iff_exists.1 hr
          obtain ⟨hz', ⟨j', h', he, -⟩ | ⟨b', j', cap', cs, fp1, h', -⟩⟩ := (hroots r blk hb).inv
          · rw [h'] at h; cases h
          · rw [h'] at h
            injection h with h
            injection h with _ _ e3 _
            rw [← e3, ← hsz, blk_eq hb]
        subst hszz
        rw [Addr.add_mid]
        have : (j + off) * sz' + i.toNat * sz' = (j + (off + i.toNat)) * sz' + 0 := by rw [← Nat.add_mul]; congr 1; omega
        rw [this]
        exact .ptr h .nil
      · omega
    | hdre h t => omega

end
end Go.Amb

set_option linter.unusedSimpArgs false
set_option linter.unusedVariables false
namespace Go.Amb
open Go

theorem foldl_splice : ∀ (vs : List Value) (k off : Nat) (cs : Array Value), off + k + vs.length ≤ cs.size →
    ((vs.zipIdx k).foldl (fun (cs : Array Value) p => cs.setIfInBounds (off + p.2) p.1) cs).toList = cs.toList.take (off + k) ++ (vs ++ cs.toList.drop (off + k + vs.length))
  | [], k, off, cs, h => by simp
  | v :: vs, k, off, cs, h => by
    simp only [List.zipIdx_cons, List.foldl_cons]
    simp only [List.length_cons] at h
    rw [foldl_splice vs (k + 1) off _ (by simp; omega)]
    have hlt : off + k < cs.toList.length := by simp; omega
    have e1 : (cs.setIfInBounds (off + k) v).toList = cs.toList.set (off + k) v := by simp
    rw [e1, show off + (k + 1) = off + k + 1 by omega]
    rw [List.take_succ_eq_append_getElem (by simpa using hlt)]
    have e2 : (cs.toList.set (off + k) v).take (off + k) = cs.toList.take (off + k) := List.take_set_of_le (Nat.le_refl _)
    have e3 : (cs.toList.set (off + k) v).drop (off + k + 1 + vs.length) = cs.toList.drop (off + k + 1 + vs.length) := List.drop_set_of_lt (by omega)
    rw [e2, e3]
    simp only [List.getElem_set_self, List.length_cons, List.append_assoc, List.cons_append, List.nil_append]
    rw [show off + k + 1 + vs.length = off + k + (vs.length + 1) by omega]

theorem zipIdx_fold (v cs : Array Value) (off : Nat) (h : off + v.size ≤ cs.size) :
    (v.zipIdx.foldl (fun (cs : Array Value) (p : Value × Nat) => match p with | (c, j) => cs.setIfInBounds (off + j) c) cs).toList = cs.toList.take off ++ (v.toList ++ cs.toList.drop (off + v.size)) := by
  have := foldl_splice v.toList 0 off cs (by simpa using h)
  rw [← Array.foldl_toList, Array.toList_zipIdx]
  simpa using this

section
variable {w : World} {O : Nat → Prop} {B : Nat} {pl : Pls}

/-- One part laid over cells. -/
theorem splice_vals {z p : List AV} {us ps : List Value} (hz : Vals w O B pl z us []) (hp : Vals w O B pl p ps []) (off n : Nat) (hn : ps.length = n) :
    Vals w O B pl (z.take off ++ p ++ z.drop (off + n)) (us.take off ++ (ps ++ us.drop (off + n))) [] := by
  rw [List.append_assoc]
  have := (hz.take0 off).append (hp.append (hz.drop0 (off + n)))
  simpa using this

theorem one_all {z p : List AV} {off n : Nat} (hz : ∀ c ∈ z, c.one = true) (hp : ∀ c ∈ p, c.one = true) : ∀ c ∈ z.take off ++ p ++ z.drop (off + n), c.one = true := by
  intro c hc
  simp only [List.mem_append] at hc
  rcases hc with (hc | hc) | hc
  · exact hz c (List.mem_of_mem_take hc)
  · exact hp c hc
  · exact hz c (List.mem_of_mem_drop hc)
end

section
variable {E : Env} {st : St} {a : Act} {w : World} {pl : Pls} {fp : Nat → List Nat} {o : Oper} {k : Nat}

/-- Is one cell, or a struct. -/
theorem oneOrAgg {v : AV} (h : ∀ c ∈ cellsOf v, c.one = true) : v.one = true ∨ ∃ cs, v = .agg cs := by
  cases v with
  | agg cs => exact .inr ⟨cs, rfl⟩
  | _ => exact .inl (by simpa [cellsOf] using h)

theorem fill_sound (hR : RelW E st a w pl fp) {fs : Array Field} {places : List (Nat × Nat)} (hpl : fs.toList.mapM (fun f => (E.P.info? f.type).map fun i => (f.offset, i.size)) = some places) :
    ∀ (ps : List (Nat × Operand)) (qs : List (Nat × Nat × AOpr)) (z : List AV) (cells : Array Value), chkParts E.P fs ps qs = true →
      (∀ p ∈ qs, st.ok p.2.2 ∧ (cellsOf (st.val p.2.2)).length = p.2.1 ∧ p.1 + p.2.1 ≤ z.length ∧ (∀ c ∈ cellsOf (st.val p.2.2), c.one = true)) →
      Vals w (Own E st fp) E.w0.heap.size pl z cells.toList [] → (∀ c ∈ z, c.one = true) →
      ∃ cells', Instr.fill (places.toArray[·]?) cells (ps.map fun (i, x) => (i, a.eval x)) = some cells' ∧
        Vals w (Own E st fp) E.w0.heap.size pl (fillA z (qs.map fun (o, n, x) => (o, n, st.val x))) cells'.toList [] ∧ ∀ c ∈ fillA z (qs.map fun (o, n, x) => (o, n, st.val x)), c.one = true
  | [], [], z, cells, _, _, hv, h1 => ⟨cells, rfl, hv, h1⟩
  | (f, x) :: ps, (off, n, y) :: qs, z, cells, hc, hp, hv, h1 => by
    simp only [chkParts, Bool.and_eq_true] at hc
    obtain ⟨⟨hc1, hc2⟩, hc3⟩ := hc
    obtain ⟨hy, hlen, hle, hone⟩ := hp (off, n, y) (by simp)
    simp only at hy hlen hle hone
    split at hc1
    · rename_i fld hfld
      simp only [Bool.and_eq_true, decide_eq_true_eq] at hc1
      obtain ⟨rfl, hsz⟩ := hc1
      have hplace : places.toArray[f]? = some (fld.offset, n) := by
        have hsz' := szIs_eq hsz
        have hfl : fs.toList[f]? = some fld := by simpa using hfld
        have : ∀ (l : List Field) (p : List (Nat × Nat)), l.mapM (fun f => (E.P.info? f.type).map fun i => (f.offset, i.size)) = some p → ∀ f : Nat, l[f]? = some fld → p[f]? = some (fld.offset, n) := by
          intro l
          induction l with
          | nil => intro p _ f hf; simp at hf
          | cons g l ih =>
            intro p hp f hf
            simp only [List.mapM_cons, Option.bind_eq_bind, Option.pure_def] at hp
            cases hi : E.P.info? g.type with
            | none => simp [hi] at hp
            | some i =>
              cases hr : l.mapM (fun f => (E.P.info? f.type).map fun i => (f.offset, i.size)) with
              | none => simp [hi, hr] at hp
              | some rest =>
                simp [hi, hr] at hp
                subst hp
                cases f with
                | zero =>
                  simp at hf
                  subst hf
                  simp [hi] at hsz'
                  simp [hsz']
                | succ f => simpa using ih rest hr f (by simpa using hf)
        simpa using this _ _ hpl f hfl
      have hvy := cells_of (opr_sound hR hc2 hy) (oneOrAgg hone)
      have hcs : (a.eval x).cells.toList.length = n := by rw [hvy.length, hlen]
      have hcz : cells.toList.length = z.length := hv.length
      simp only [Array.length_toList] at hcs hcz
      have hsp := zipIdx_fold (a.eval x).cells cells fld.offset (by omega)
      rw [hcs] at hsp
      have hv' : Vals w (Own E st fp) E.w0.heap.size pl (z.take fld.offset ++ cellsOf (st.val y) ++ z.drop (fld.offset + n)) ((a.eval x).cells.zipIdx.foldl (fun (cs : Array Value) (p : Value × Nat) => match p with | (c, j) => cs.setIfInBounds (fld.offset + j) c) cells).toList [] := by
        rw [hsp]
        exact splice_vals hv hvy fld.offset n (by simpa using hcs)
      have hlen' : (z.take fld.offset ++ cellsOf (st.val y) ++ z.drop (fld.offset + n)).length = z.length := by simp [List.length_append, List.length_take, List.length_drop, hlen]; omega
      obtain ⟨cells', h4, h5, h6⟩ := fill_sound hR hpl ps qs _ _ hc3 (fun p hp' => by rw [hlen']; exact hp p (by simp [hp'])) hv' (one_all h1 hone)
      refine ⟨cells', ?_, h5, h6⟩
      simp only [List.map_cons, Instr.fill, hplace]
      have hcond : ((a.eval x).cells.size ≠ n || fld.offset + (a.eval x).cells.size > cells.size) = false := by simp; omega
      rw [if_neg (by rw [hcond]; simp)]
      exact h4
    · cases hc1
  | [], _ :: _, _, _, h, _, _, _ => by simp [chkParts] at h
  | (_, _) :: _, [], _, _, h, _, _, _ => by simp [chkParts] at h

theorem zeroIs_true {P : Program} {t : TypeId} {z : List CV} (h : zeroIs P t true z = true) : ∃ i cs, P.info? t = some i ∧ i.zero = some (.agg cs) ∧ chkCs cs.toList z = true := by
  unfold zeroIs at h
  cases hi : P.info? t with
  | none => simp [hi] at h
  | some i =>
    cases hz : i.zero with
    | none => simp [hi, hz] at h
    | some v => cases v <;> simp [hi, hz] at h <;> first | exact ⟨i, _, rfl, hz, h⟩ | cases h
theorem zeroIs_false {P : Program} {t : TypeId} {z : List CV} (h : zeroIs P t false z = true) : ∃ i v, P.info? t = some i ∧ i.zero = some v ∧ (∀ us, v ≠ .agg us) ∧ chkCs [v] z = true := by
  unfold zeroIs at h
  cases hi : P.info? t with
  | none => simp [hi] at h
  | some i =>
    cases hz : i.zero with
    | none => simp [hi, hz] at h
    | some v => cases v <;> simp [hi, hz] at h <;> first | exact ⟨i, _, rfl, hz, by simp, h⟩ | cases h

theorem mapM_some {P : Program} (l : List Field) (h : ∀ f ∈ l, (P.info? f.type).isSome = true) : ∃ p, l.mapM (fun f => (P.info? f.type).map fun i => (f.offset, i.size)) = some p := by
  induction l with
  | nil => exact ⟨[], rfl⟩
  | cons f l ih =>
    obtain ⟨i, hi⟩ := Option.isSome_iff_exists.1 (h f (by simp))
    obtain ⟨p, hp⟩ := ih (fun g hg => h g (by simp [hg]))
    exact ⟨(f.offset, i.size) :: p, by simp [List.mapM_cons, hi, hp]⟩

theorem g_build {t : TypeId} {ps : Array (Nat × Operand)} {z : List CV} {qs : List (Nat × Nat × AOpr)} {fs : Array Field} (hR : RelW E st a w pl fp) (ho : o.op = .build t ps) (hz : zeroIs E.P t true z = true) (hf : fieldsIs E.P t = some fs)
    (hc : chkParts E.P fs ps.toList qs = true) (ha : ∀ f ∈ fs.toList, (E.P.info? f.type).isSome = true) (hp : pop st k (.build z qs)) : Gives E st a w pl fp o (vop st k (.build z qs)) := by
  obtain ⟨i, cs, hi, hzero, hcs⟩ := zeroIs_true hz
  obtain ⟨h1, h2⟩ := chkCs_sound (w := w) (O := Own E st fp) (B := E.w0.heap.size) (pl := pl) _ _ hcs
  obtain ⟨places, hpl⟩ := mapM_some (P := E.P) _ ha
  obtain ⟨cells, hfill, hv, hone⟩ := fill_sound hR hpl ps.toList qs _ cs hc (by simpa [pop] using hp) h1 h2
  refine ⟨.agg cells, ?_, ?_⟩
  · have hb : E.P.built t (ps.map fun (i, x) => (i, a.eval x)).toList = some cells := by
      simp only [Program.built, hi, fieldsIs_eq hf, hzero, hpl, Value.cells]
      simpa using hfill
    simp only [execOp, ho, Sem.run_bind, run_build w t _ cells hb, Result.andThen_ok]
    rfl
  · simp only [vop]
    have := Vals.agg (fp := []) hone hv .nil
    simpa using this
end
end Go.Amb

set_option linter.unusedSimpArgs false
set_option linter.unusedVariables false
namespace Go.Amb
open Go

section
variable {E : Env} {st : St} {a : Act} {w : World} {pl : Pls} {fp : Nat → List Nat} {o : Oper} {k : Nat}

theorem g_fld {t : TypeId} {f off n : Nat} {ag : Bool} {x : Operand} {x' : AOpr} {fs : Array Field} {fld : Field} (hR : RelW E st a w pl fp) (ho : o.op = .field t x f) (h2 : chkX x x' = true) (hs : fieldsIs E.P t = some fs)
    (hf : fs[f]? = some fld) (hoff : fld.offset = off) (hz : szIs E.P fld.type n = true) (hg : aggIs E.P fld.type ag = true) (hp : pop st k (.fld off n ag x')) : Gives E st a w pl fp o (vop st k (.fld off n ag x')) := by
  obtain ⟨hx, hn, hm⟩ := hp
  have hv := opr_sound hR h2 hx
  simp only [vop]
  revert hv hm
  generalize st.val x' = X
  generalize hu : a.eval x = u
  intro hm hv
  cases X <;> first | exact hm.elim | skip
  rename_i cs
  obtain ⟨us, rfl, hc, h1⟩ := inv_agg hv
  have hle : off + n ≤ cs.length := hm
  have hl := hc.length
  have hone : ∀ c ∈ (cs.drop off).take n, c.one = true := fun c hc => h1 c (List.mem_of_mem_drop (List.mem_of_mem_take hc))
  have hsub := (hc.drop0 off).take0 n
  cases ag with
  | true =>
    obtain ⟨d, hd, hrow⟩ := aggIs_true hg
    refine ⟨.agg ((us.drop off).take n).toArray, ?_, ?_⟩
    · simp only [execOp, ho, hu, Instr.field, Sem.run_bind, run_underlying (fieldsIs_eq hs), hf, asAgg, Sem.run_pure, Result.andThen_ok, part, run_isAgg hd, hrow, if_true, run_sizeOf' hz, hoff]
      congr 3
      apply Array.ext'
      simp [List.extract_eq_take_drop, Nat.add_sub_cancel_left]
    · simp only [asVar, if_true]
      have := Vals.agg (fp := []) hone hsub .nil
      simpa using this
  | false =>
    obtain ⟨d, hd, hrow⟩ := aggIs_false hg
    have hn1 := hn rfl
    subst hn1
    have hlt : off < us.length := by omega
    have hlt' : off < cs.length := by omega
    refine ⟨us[off], ?_, ?_⟩
    · simp [execOp, ho, hu, Instr.field, run_underlying (fieldsIs_eq hs), hf, asAgg, part, run_isAgg hd, hrow, hoff, List.getElem?_eq_getElem hlt]
    · simp only [asVar, Bool.false_eq_true, if_false]
      obtain ⟨u, h4, h5⟩ := hc.get0 off cs[off] (List.getElem?_eq_getElem hlt')
      rw [List.getElem?_eq_getElem hlt] at h4
      injection h4 with h4
      subst h4
      have : ((cs.drop off).take 1).headD .undef = cs[off] := by
        rw [List.drop_eq_getElem_cons hlt']
        rfl
      rw [this]; exact h5

theorem g_sidx {t : TypeId} {x y : Operand} {x' y' : AOpr} (hR : RelW E st a w pl fp) (ho : o.op = .index t x y) (h2 : chkX x x' = true) (h3 : chkX y y' = true) (ht : E.P.underlying t = some .string)
    (hp : pop st k (.sidx x' y')) : Gives E st a w pl fp o (vop st k (.sidx x' y')) := by
  obtain ⟨hx, hy, hi, h0, hm⟩ := hp
  have hv := opr_sound hR h2 hx
  obtain ⟨kk, i, e1, e2⟩ := inv_isInt (opr_sound hR h3 hy) hi
  simp only [vop]
  rw [e1] at h0 hm ⊢
  simp only [intOf'] at h0 hm ⊢
  revert hv hm
  generalize st.val x' = X
  generalize hu : a.eval x = u
  intro hv hm
  cases X <;> first | exact hm.elim | skip
  rename_i s
  obtain ⟨rfl, -⟩ := inv_str hv
  have hlt : i.toNat < s.size := by omega
  refine ⟨.int .u8 (s[i.toNat]).toNat, ?_, ?_⟩
  · have hs : s[i.toNat]? = some s[i.toNat] := getElem?_pos s i.toNat hlt
    simp [execOp, ho, hu, e2, Instr.index, asIntOf, run_underlying ht, h0, hs]
  · have : s.data.toList.getD i.toNat 0 = s[i.toNat] := by
      rw [List.getD_eq_getElem?_getD, List.getElem?_eq_getElem (by simpa using hlt)]
      rfl
    simp only [this]
    exact .int .nil

theorem run_sliceBound {P : Program} (kk : IntKind) (i : Int) (y : Nat) (c : BoundsCode) (h0 : 0 ≤ i) (h1 : i ≤ y) (w : World) : (Instr.sliceBound (.int kk i) y c).run P w = .ok i.toNat w := by
  have : 0 ≤ i ∧ i ≤ (y : Int) := ⟨h0, h1⟩
  simp [Instr.sliceBound, asIntOf, this]

theorem bound_cases (hR : RelW E st a w pl fp) {x : Option Operand} {x' : Option AOpr} {n : Nat} (h : chkXo x x' = true) (b : boundOk st 0 n x') :
    (x = none ∧ x' = none) ∨ ∃ kk i, x.map a.eval = some (.int kk i) ∧ 0 ≤ i ∧ i ≤ n ∧ Amb.lo' st x' = i.toNat ∧ ∀ m, Amb.hi' st m x' = i.toNat := by
  cases x with
  | none =>
    cases x' with
    | none => exact .inl ⟨rfl, rfl⟩
    | some y => simp [chkXo] at h
  | some x =>
    cases x' with
    | none => simp [chkXo] at h
    | some y =>
      obtain ⟨o1, o2, o3, o4⟩ := b
      obtain ⟨kk, i, e1, e2⟩ := inv_isInt (opr_sound hR h o1) o2
      rw [e1] at o3 o4
      simp only [intOf'] at o3 o4
      exact .inr ⟨kk, i, by simp [e2], by omega, o4, by simp [Amb.lo', e1, intOf'], fun m => by simp [Amb.hi', e1, intOf']⟩

theorem run_bounds (hR : RelW E st a w pl fp) {lo hi : Option Operand} {lo' hi' : Option AOpr} {n cap : Nat} {isS : Bool} (hcap : n ≤ cap) (h1 : chkXo lo lo' = true) (h2 : chkXo hi hi' = true)
    (b1 : boundOk st 0 (Amb.hi' st n hi') lo') (b2 : boundOk st 0 n hi') : (Instr.sliceBounds isS n cap (lo.map a.eval) (hi.map a.eval) none).run E.P w = .ok (Amb.lo' st lo', Amb.hi' st n hi', cap) w ∧ Amb.lo' st lo' ≤ Amb.hi' st n hi' ∧ Amb.hi' st n hi' ≤ n := by
  rcases bound_cases hR h2 b2 with ⟨rfl, rfl⟩ | ⟨kk, i, e1, e2, e3, e4, e5⟩
  · rcases bound_cases hR h1 b1 with ⟨rfl, rfl⟩ | ⟨k2, j, f1, f2, f3, f4, f5⟩
    · exact ⟨by simp [Instr.sliceBounds, Amb.lo', Amb.hi'], by simp [Amb.lo'], by simp [Amb.hi']⟩
    · simp only [Amb.hi'] at f3 ⊢
      refine ⟨?_, by omega, Nat.le_refl _⟩
      simp [Instr.sliceBounds, f1, f4, run_sliceBound k2 j n _ f2 f3 w]
  · rw [e5] at b1 ⊢
    have hci : i ≤ (cap : Int) := by omega
    rcases bound_cases hR h1 b1 with ⟨rfl, rfl⟩ | ⟨k2, j, f1, f2, f3, f4, f5⟩
    · refine ⟨?_, by simp [Amb.lo'], by omega⟩
      simp [Instr.sliceBounds, e1, Amb.lo', run_sliceBound kk i cap _ e2 hci w]
    · refine ⟨?_, by omega, by omega⟩
      simp [Instr.sliceBounds, e1, f1, f4, run_sliceBound kk i cap _ e2 hci w, run_sliceBound k2 j i.toNat _ f2 f3 w]

/-- As run_bounds; the upper bound may lie behind the slice's end. -/
theorem run_bounds2 (hR : RelW E st a w pl fp) {lo hi : Option Operand} {lo' hi' : Option AOpr} {n M cap : Nat} {isS : Bool} (hcap : n ≤ cap) (hM : M ≤ cap) (h1 : chkXo lo lo' = true) (h2 : chkXo hi hi' = true)
    (b1 : boundOk st 0 (Amb.hi' st n hi') lo') (b2 : boundOk st 0 M hi') : (Instr.sliceBounds isS n cap (lo.map a.eval) (hi.map a.eval) none).run E.P w = .ok (Amb.lo' st lo', Amb.hi' st n hi', cap) w ∧ Amb.lo' st lo' ≤ Amb.hi' st n hi' ∧ Amb.hi' st n hi' ≤ cap := by
  rcases bound_cases hR h2 b2 with ⟨rfl, rfl⟩ | ⟨kk, i, e1, e2, e3, e4, e5⟩
  · obtain ⟨h3, h4, h5⟩ := run_bounds (isS := isS) hR hcap h1 h2 b1 (n := n) trivial
    exact ⟨h3, h4, by simpa [Amb.hi'] using hcap⟩
  · rw [e5] at b1 ⊢
    have hci : i ≤ (cap : Int) := by omega
    rcases bound_cases hR h1 b1 with ⟨rfl, rfl⟩ | ⟨k2, j, f1, f2, f3, f4, f5⟩
    · refine ⟨?_, by simp [Amb.lo'], by omega⟩
      simp [Instr.sliceBounds, e1, Amb.lo', run_sliceBound kk i cap _ e2 hci w]
    · refine ⟨?_, by omega, by omega⟩
      simp [Instr.sliceBounds, e1, f1, f4, run_sliceBound kk i cap _ e2 hci w, run_sliceBound k2 j i.toNat _ f2 f3 w]

theorem g_sslice {t : TypeId} {x : Operand} {x' : AOpr} {lo hi : Option Operand} {lo' hi' : Option AOpr} (hR : RelW E st a w pl fp) (ho : o.op = .slice t x lo hi none) (h2 : chkX x x' = true) (h3 : chkXo lo lo' = true) (h4 : chkXo hi hi' = true)
    (ht : E.P.underlying t = some .string) (hp : pop st k (.sslice x' lo' hi')) : Gives E st a w pl fp o (vop st k (.sslice x' lo' hi')) := by
  obtain ⟨hx, hm⟩ := hp
  have hv := opr_sound hR h2 hx
  simp only [vop]
  revert hv hm
  generalize st.val x' = X
  generalize hu : a.eval x = u
  intro hm hv
  cases X <;> first | exact hm.elim | skip
  rename_i s
  obtain ⟨rfl, -⟩ := inv_str hv
  obtain ⟨b1, b2⟩ := hm
  obtain ⟨hr, _, _⟩ := run_bounds (isS := false) hR (Nat.le_refl s.size) h3 h4 b1 b2
  refine ⟨.string (s.extract (Amb.lo' st lo') (Amb.hi' st s.size hi')), ?_, .str .nil⟩
  simp [execOp, ho, hu, Instr.sliceAt, Instr.slice, run_underlying ht, hr]

/-- A cut of a row that is told by its content. -/
theorem cut_vals {O : Nat → Prop} {B : Nat} {K : SK} {xs : List AV} {A : Option Addr} {c sz l h : Nat} (hv : Vals w O B pl [.sl K xs] [.slice A xs.length c] []) (hk : K.cuts xs) (hsz : ∀ v ∈ xs, (cellsOf v).length = sz) (hlh : l ≤ h) (hh : h ≤ xs.length) :
    Vals w O B pl [.sl K ((xs.drop l).take (h - l))] [.slice (if c = l then A else A.map (·.add (l * sz))) (h - l) (c - l)] [] := by
  have hlen : ((xs.drop l).take (h - l)).length = h - l := by rw [List.length_take, List.length_drop]; omega
  by_cases he : h - l = 0
  · have hnil : (xs.drop l).take (h - l) = [] := by rw [he]; rfl
    rw [hnil, he]
    cases hv with
    | sle hk1 hc t => exact .sle hk1 (fun e => by have := hc e; omega) .nil
    | slf hk1 hx hb hl hz hu h1 hc ha hn t => exact .sle (by rcases hk1 with rfl | rfl <;> rfl) (by rcases hk1 with rfl | rfl <;> (intro e; cases e)) .nil
    | slx hx hb hl hz hu h1 hc ha t => exact absurd hk hx
    | owe t => exact hk.elim
  · have hne : (xs.drop l).take (h - l) ≠ [] := fun e => by rw [e] at hlen; simp at hlen; omega
    generalize hn' : xs.length = n' at hv
    cases hv with
    | sle hk1 hc t => simp at hne
    | @slf _ _ _ b p c sz' cs _ _ _ hk1 hx hb hl hz hu h1 hc ha hn t =>
      have hszz : sz' = sz := by
        cases xs with
        | nil => exact absurd rfl hx
        | cons x xs => rw [← hu x (by simp), hsz x (by simp)]
      subst hszz
      have e : xs = xs.take l ++ ((xs.drop l).take (h - l) ++ (xs.drop l).drop (h - l)) := by rw [List.take_append_drop, List.take_append_drop]
      have hc' := hc
      rw [e, flat_append, flat_append] at hc'
      obtain ⟨c1, c2, rfl, v1, v2⟩ := hc'.unappend0
      obtain ⟨c3, c4, rfl, v3, v4⟩ := v2.unappend0
      have hl1 : c1.length = l * sz' := by
        rw [v1.length, flat_length (fun x hx => hu x (List.mem_of_mem_take hx)), List.length_take, Nat.min_eq_left (by omega)]
      have hadd : (if c = l then some (⟨b, p, none⟩ : Addr) else (some (⟨b, p, none⟩ : Addr)).map (·.add (l * sz'))) = some ⟨b, p + l * sz', none⟩ := by
        rw [if_neg (by omega), Option.map_some, Addr.add_mid]
      have ha' : At w b (p + l * sz') c3 := by rw [← hl1]; exact ha.drop.take
      have hu' : ∀ x ∈ (xs.drop l).take (h - l), (cellsOf x).length = sz' := fun x hx => hu x (List.mem_of_mem_drop (List.mem_of_mem_take hx))
      have h1' : ∀ x ∈ flat ((xs.drop l).take (h - l)), x.one = true := fun x hx => h1 x (by rw [e, flat_append, flat_append]; simp [hx])
      rw [hadd]
      generalize hm : h - l = m at *
      generalize (xs.drop l).take m = ys at *
      subst hlen
      exact .slf hk1 hne hb hl hz hu' h1' v3 ha' (by omega) .nil
    | slx hx hb hl hz hu h1 hc ha t => exact absurd hk hx
    | owe t => exact hk.elim

theorem g_slice {t e : TypeId} {sz : Nat} {x : Operand} {x' : AOpr} {lo hi mx : Option Operand} {lo' hi' mx' : Option AOpr} (hR : RelW E st a w pl fp) (ho : o.op = .slice t x lo hi mx) (h2 : chkX x x' = true) (h3 : chkXo lo lo' = true) (h4 : chkXo hi hi' = true)
    (h5 : chkXo mx mx' = true) (hs : elemIs E.P t = some e) (hz : szIs E.P e sz = true) (hp : pop st k (.slice sz x' lo' hi' mx')) : Gives E st a w pl fp o (vop st k (.slice sz x' lo' hi' mx')) := by
  obtain ⟨hx, hmx, hm⟩ := hp
  have hmx0 : mx = none := by
    cases mx with
    | none => rfl
    | some y => cases mx' with
      | none => simp [chkXo] at h5
      | some z => simp at hmx
  subst hmx0
  have hv := opr_sound hR h2 hx
  have hroots := hR.roots
  simp only [vop]
  have hex2 : ∀ A n c M, a.eval x = .slice A n c → n ≤ c → M ≤ c → boundOk st 0 (Amb.hi' st n hi') lo' → boundOk st 0 M hi' →
      (execOp a.eval o).run E.P w = .ok (.value (.slice (if c = Amb.lo' st lo' then A else A.map (·.add (Amb.lo' st lo' * sz))) (Amb.hi' st n hi' - Amb.lo' st lo') (c - Amb.lo' st lo'))) w ∧ Amb.lo' st lo' ≤ Amb.hi' st n hi' ∧ Amb.hi' st n hi' ≤ c := by
    intro A n c M hu hle hM b1 b2
    obtain ⟨hr, hl1, hl2⟩ := run_bounds2 (isS := true) hR hle hM h3 h4 b1 b2
    refine ⟨?_, hl1, hl2⟩
    simp [execOp, ho, hu, Instr.sliceAt, Instr.slice, run_underlying (elemIs_eq hs), hr, run_sizeOf' hz]
  have hex : ∀ A n c, a.eval x = .slice A n c → n ≤ c → boundOk st 0 (Amb.hi' st n hi') lo' → boundOk st 0 n hi' →
      (execOp a.eval o).run E.P w = .ok (.value (.slice (if c = Amb.lo' st lo' then A else A.map (·.add (Amb.lo' st lo' * sz))) (Amb.hi' st n hi' - Amb.lo' st lo') (c - Amb.lo' st lo'))) w ∧ Amb.lo' st lo' ≤ Amb.hi' st n hi' ∧ Amb.hi' st n hi' ≤ n := by
    intro A n c hu hle b1 b2
    obtain ⟨hr, hl1, hl2⟩ := run_bounds (isS := true) hR hle h3 h4 b1 b2
    refine ⟨?_, hl1, hl2⟩
    simp [execOp, ho, hu, Instr.sliceAt, Instr.slice, run_underlying (elemIs_eq hs), hr, run_sizeOf' hz]
  revert hv hm
  generalize st.val x' = X
  generalize hu : a.eval x = u
  intro hm hv
  cases X <;> first | exact hm.elim | skip
  · rename_i K xs
    obtain ⟨hk, b1, b2, hsz⟩ := hm
    obtain ⟨A, c, hu2, hle⟩ : ∃ A c, u = .slice A xs.length c ∧ xs.length ≤ c := by
      cases hv with
      | sle hk hc t => exact ⟨_, _, rfl, Nat.zero_le _⟩
      | slf hk1 hx hb hl hz hu h1 hc ha hn t => exact ⟨_, _, rfl, hn⟩
      | slx hx hb hl hz hu h1 hc ha t => exact ⟨_, _, rfl, Nat.le_refl _⟩
      | owe t => exact ⟨_, _, rfl, Nat.zero_le _⟩
    subst hu2
    obtain ⟨hr, hl1, hl2⟩ := hex A _ c hu hle b1 b2
    exact ⟨_, hr, cut_vals hv hk hsz hl1 hl2⟩
  · rename_i r off n
    obtain ⟨b1, b2, hr, hsz⟩ := hm
    cases hv with
    | @hdr _ _ _ _ b j sz' cap A _ _ _ h hn hA t =>
      have hroom : ∀ blk, st.heap r = some blk → blk.es.length ≤ cap := by
        intro blk hb
        obtain ⟨hz', ⟨j', h', he, -⟩ | ⟨b', j', cap', cs, fp1, h', -, -, -, -, hcap', -⟩⟩ := (hroots r blk hb).inv
        · rw [he]; simp
        · rw [h'] at h
          injection h with h
          injection h with _ _ _ e4
          omega
      obtain ⟨M, hM, b2⟩ : ∃ M, M ≤ cap - off ∧ boundOk st 0 M hi' := by
        rcases b2 with b2 | b2
        · exact ⟨n, by omega, b2⟩
        · obtain ⟨blk, hb⟩ := Option.isSome_iff_exists.1 hr
          rw [blk_eq hb] at b2
          exact ⟨_, by have := hroom blk hb; omega, b2⟩
      obtain ⟨hrun, hl1, hl2⟩ := hex2 A n (cap - off) M hu (by omega) hM b1 b2
      have hszz : sz' = sz := by
        obtain ⟨blk, hb⟩ := Option.isSome_iff_exists.1 hr
        obtain ⟨hz', ⟨j', h', he, -⟩ | ⟨b', j', cap', cs, fp1, h', -⟩⟩ := (hroots r blk hb).inv
        · rw [h'] at h; cases h
        · rw [h'] at h
          injection h with h
          injection h with _ _ e3 _
          rw [← e3, ← hsz, blk_eq hb]
      subst hszz
      refine ⟨_, hrun, ?_⟩
      rw [show cap - off - Amb.lo' st lo' = cap - (off + Amb.lo' st lo') by omega]
      refine .hdr h (by omega) ?_ .nil
      by_cases hcap : cap = off
      · exact .inr (by omega)
      · rcases hA with rfl | hA
        · by_cases hc2 : cap - off = Amb.lo' st lo'
          · exact .inr (by omega)
          · left
            rw [if_neg hc2, Option.map_some, Addr.add_mid]
            congr 2
            rw [Nat.add_mul, Nat.add_mul, Nat.add_mul]; omega
        · exact absurd hA hcap
    | hdre h t =>
      obtain ⟨M, hM, b2⟩ : ∃ M, M ≤ 0 ∧ boundOk st 0 M hi' := by
        rcases b2 with b2 | b2
        · exact ⟨0, by omega, b2⟩
        · obtain ⟨blk, hb⟩ := Option.isSome_iff_exists.1 hr
          rw [blk_eq hb] at b2
          refine ⟨_, ?_, b2⟩
          obtain ⟨hz', ⟨j', h', he, -⟩ | ⟨b', j', cap', cs, fp1, h', -⟩⟩ := (hroots r blk hb).inv
          · rw [he]; simp
          · rw [h'] at h; cases h
      obtain ⟨hrun, hl1, hl2⟩ := hex2 _ 0 0 M hu (Nat.le_refl _) hM b1 b2
      refine ⟨_, hrun, ?_⟩
      have e1 : Amb.lo' st lo' = 0 := by omega
      have e2 : Amb.hi' st 0 hi' = 0 := by omega
      show Vals w _ _ _ [.hdr r (0 + Amb.lo' st lo') (Amb.hi' st 0 hi' - Amb.lo' st lo')] _ _
      rw [e1, e2]
      exact .hdre h .nil

theorem g_slm {t e : TypeId} {x lo hi mx : Operand} {x' lo' hi' mx' : AOpr} (hR : RelW E st a w pl fp) (ho : o.op = .slice t x (some lo) (some hi) (some mx)) (h2 : chkX x x' = true) (h3 : chkX lo lo' = true) (h4 : chkX hi hi' = true) (h5 : chkX mx mx' = true)
    (hs : elemIs E.P t = some e) (hi0 : (E.P.info? e).isSome = true) (hp : slmOk st x' lo' hi' mx') : ∃ u, (execOp a.eval o).run E.P w = .ok (.value u) w := by
  obtain ⟨hx, hl, b1, b2, b3⟩ := hp
  have hv := opr_sound hR h2 hx
  have hroots := hR.roots
  obtain ⟨i, hi1⟩ := Option.isSome_iff_exists.1 hi0
  have key : ∀ A n c, a.eval x = .slice A n c → roomOf st (st.val x') ≤ c → ∃ u, (execOp a.eval o).run E.P w = .ok (.value u) w := by
    intro A n c hu hc
    rcases bound_cases hR (x := some mx) (x' := some mx') h5 b1 with ⟨h, _⟩ | ⟨k1, m, m1, m2, m3, m4, m5⟩
    · cases h
    rw [m5] at b2
    rcases bound_cases hR (x := some hi) (x' := some hi') h4 b2 with ⟨h, _⟩ | ⟨k2, hh, p1, p2, p3, p4, p5⟩
    · cases h
    rw [p5] at b3
    rcases bound_cases hR (x := some lo) (x' := some lo') h3 b3 with ⟨h, _⟩ | ⟨k3, l, q1, q2, q3, q4, q5⟩
    · cases h
    simp only [Option.map_some, Option.some.injEq] at m1 p1 q1
    have r1 := run_sliceBound (P := E.P) k1 m c .slice3Acap m2 (by omega) w
    have r2 := run_sliceBound (P := E.P) k2 hh m.toNat .slice3B p2 p3 w
    have r3 := run_sliceBound (P := E.P) k3 l hh.toNat .slice3C q2 q3 w
    exact ⟨_, by simp [execOp, ho, hu, Instr.sliceAt, Instr.slice, run_underlying (elemIs_eq hs), Instr.sliceBounds, m1, p1, q1, r1, r2, r3, sizeOf, typeInfo, hi1]; rfl⟩
  revert key
  revert hl
  revert hv
  generalize st.val x' = X
  generalize a.eval x = u
  intro hv hl key
  cases X <;> first | exact hl.elim | skip
  · rename_i K xs
    cases hv with
    | sle hk hc t => exact key _ _ _ rfl (by simp [roomOf])
    | slf hk1 hx hb hl hz hu h1 hc ha hn t => exact key _ _ _ rfl hn
    | slx hx hb hl hz hu h1 hc ha t => exact key _ _ _ rfl (Nat.le_refl _)
    | owe t => exact hl.elim
  · rename_i r off n
    obtain ⟨blk, hb⟩ := Option.isSome_iff_exists.1 hl
    obtain ⟨hz', ⟨j', h', he, -⟩ | ⟨b', j', cap', cs, fp1, h', -, -, -, -, hcap', -⟩⟩ := (hroots r blk hb).inv
    · cases hv with
      | hdr h hn hA t => rw [h'] at h; cases h
      | hdre h t => exact key _ _ _ rfl (by simp [roomOf, blk_eq hb, he])
    · cases hv with
      | hdr h hn hA t =>
        rw [h'] at h
        injection h with h
        injection h with _ _ _ e4
        exact key _ _ _ rfl (by simp only [roomOf, blk_eq hb]; omega)
      | hdre h t => rw [h'] at h; cases h
end
end Go.Amb

set_option linter.unusedSimpArgs false
set_option linter.unusedVariables false
namespace Go.Amb
open Go

theorem eqCells_append : ∀ (a c b d : List AV), a.length = c.length → eqCells (a ++ b) (c ++ d) = (eqCells a c && eqCells b d)
  | [], [], b, d, _ => by simp [eqCells]
  | x :: a, y :: c, b, d, h => by
    simp only [List.cons_append, eqCells, eqCells_append a c b d (by simpa using h), Bool.and_assoc]
  | [], _ :: _, _, _, h => by simp at h
  | _ :: _, [], _, _, h => by simp at h

/-- The value of a variable, by its cells. -/
def valOf (row : Bool) (us : List Value) : Value := if row then .agg us.toArray else us.headD undef

theorem part_valOf {P : Program} {t : TypeId} {n : Nat} (hz : szIs P t n = true) (hg : aggIs P t (isRowTy P t) = true) (xs : List Value) (off : Nat) (h : off + n ≤ xs.length) (hn : isRowTy P t = false → n = 1) (w : World) :
    (part t xs.toArray off).run P w = .ok (valOf (isRowTy P t) ((xs.drop off).take n)) w := by
  cases hr : isRowTy P t with
  | true =>
    rw [hr] at hg
    obtain ⟨d, hd, hrow⟩ := aggIs_true hg
    simp only [part, Sem.run_bind, run_isAgg hd, hrow, Result.andThen_ok, if_true, run_sizeOf' hz, Sem.run_pure, valOf]
    congr 2
    apply Array.ext'
    simp [List.extract_eq_take_drop, Nat.add_sub_cancel_left]
  | false =>
    rw [hr] at hg
    obtain ⟨d, hd, hrow⟩ := aggIs_false hg
    have := hn hr
    subst this
    have hlt : off < xs.length := by omega
    simp only [part, Sem.run_bind, run_isAgg hd, hrow, Result.andThen_ok, Bool.false_eq_true, if_false, valOf]
    rw [List.getElem?_toArray, List.getElem?_eq_getElem hlt, List.drop_eq_getElem_cons hlt]
    rfl

theorem ck_int {v : AV} {k : IntKind} (h : ckOf v = some (.i k)) : ∃ n, v = .int k n := by cases v <;> simp [ckOf] at h; subst h; exact ⟨_, rfl⟩
theorem ck_bool {v : AV} (h : ckOf v = some .b) : ∃ b, v = .bool b := by cases v <;> simp [ckOf] at h; exact ⟨_, rfl⟩
theorem ck_str {v : AV} (h : ckOf v = some .s) : ∃ s, v = .str s := by cases v <;> simp [ckOf] at h; exact ⟨_, rfl⟩

section
variable {w : World} {O : Nat → Prop} {B : Nat} {pl : Pls}
theorem single {ks : CK} {cs : List AV} {us : List Value} (hc : Vals w O B pl cs us []) (h : cs.map ckOf = [some ks]) : ∃ v u, cs = [v] ∧ us = [u] ∧ ckOf v = some ks ∧ Vals w O B pl [v] [u] [] := by
  cases cs with
  | nil => simp at h
  | cons v cs =>
    cases cs with
    | nil =>
      obtain ⟨u, us', rfl, h1, h2⟩ := hc.uncons0
      cases h2
      exact ⟨v, u, rfl, rfl, by simpa using h, h1⟩
    | cons _ _ => simp at h
end

theorem eqTy_len {P : Program} : ∀ (d : Nat) (t : TypeId) (ks : List CK), eqTy P d t = some ks → isRowTy P t = false → ks.length = 1 := by
  intro d t ks h hr
  cases d with
  | zero => simp [eqTy] at h
  | succ d =>
    unfold eqTy at h
    unfold isRowTy at hr
    split at h
    · simp at h; subst h; rfl
    · simp at h; subst h; rfl
    · simp at h; subst h; rfl
    · rename_i fs hu; simp [hu] at hr
    · cases h

/-- Two values of a type all of whose cells can be compared: their cells are compared. -/
theorem eq_ty {P : Program} {w : World} {O : Nat → Prop} {B : Nat} {pl : Pls} : ∀ (d : Nat) (t : TypeId) (ks : List CK), eqTy P d t = some ks → ∀ (cs ds : List AV) (us vs : List Value), Vals w O B pl cs us [] → Vals w O B pl ds vs [] →
    cs.map ckOf = ks.map some → ds.map ckOf = ks.map some → ∀ e, (Op.equalIn (d + e) t (valOf (isRowTy P t) us) (valOf (isRowTy P t) vs)).run P w = .ok (eqCells cs ds) w
  | 0, t, ks, h => by simp [eqTy] at h
  | d + 1, t, ks, h => by
    intro cs ds us vs hc hd h1 h2 e
    rw [show d + 1 + e = (d + e) + 1 by omega]
    unfold eqTy at h
    split at h
    · rename_i kk hu
      simp at h; subst h
      obtain ⟨v, u, rfl, rfl, ck, hv⟩ := single hc (by simpa using h1)
      obtain ⟨v', u', rfl, rfl, ck', hv'⟩ := single hd (by simpa using h2)
      obtain ⟨n, rfl⟩ := ck_int ck
      obtain ⟨m, rfl⟩ := ck_int ck'
      obtain ⟨rfl, -⟩ := inv_int hv
      obtain ⟨rfl, -⟩ := inv_int hv'
      have hr : isRowTy P t = false := by simp [isRowTy, hu]
      simp [hr, valOf, run_equalIn_int w _ t kk kk n m hu, eqCells, eqCell]
    · rename_i hu
      simp at h; subst h
      obtain ⟨v, u, rfl, rfl, ck, hv⟩ := single hc (by simpa using h1)
      obtain ⟨v', u', rfl, rfl, ck', hv'⟩ := single hd (by simpa using h2)
      obtain ⟨b, rfl⟩ := ck_bool ck
      obtain ⟨b', rfl⟩ := ck_bool ck'
      obtain ⟨rfl, -⟩ := inv_bool hv
      obtain ⟨rfl, -⟩ := inv_bool hv'
      have hr : isRowTy P t = false := by simp [isRowTy, hu]
      simp [hr, valOf, run_equalIn_bool' w _ t b b' hu, eqCells, eqCell]
    · rename_i hu
      simp at h; subst h
      obtain ⟨v, u, rfl, rfl, ck, hv⟩ := single hc (by simpa using h1)
      obtain ⟨v', u', rfl, rfl, ck', hv'⟩ := single hd (by simpa using h2)
      obtain ⟨b, rfl⟩ := ck_str ck
      obtain ⟨b', rfl⟩ := ck_str ck'
      obtain ⟨rfl, -⟩ := inv_str hv
      obtain ⟨rfl, -⟩ := inv_str hv'
      have hr : isRowTy P t = false := by simp [isRowTy, hu]
      simp [hr, valOf, run_equalIn_string w _ t b b' hu, eqCells, eqCell, toList_beq]
    · rename_i fs hu
      split at h
      · cases h
      · rename_i hp
        have hr : isRowTy P t = true := by simp [isRowTy, hu]
        have hf : P.fieldsOf t = fs := by simp [Program.fieldsOf, hu]
        simp only [hr, valOf, if_true]
        rw [run_equalIn_struct w (d + e) t _ _ (by rw [hf]; exact hu) (by simpa using hp), hf]
        have hcd : cs.length = ds.length := by have e1 := congrArg List.length h1; have e2 := congrArg List.length h2; simp at e1 e2; omega
        have key : ∀ (fl : List Field) (off : Nat) (kt : List CK), eqGo P (eqTy P d) fl off = some kt → off + kt.length = us.length → (cs.drop off).map ckOf = kt.map some → (ds.drop off).map ckOf = kt.map some →
            (Op.eqFields (d + e) us.toArray vs.toArray fl).run P w = .ok (eqCells (cs.drop off) (ds.drop off)) w := by
          intro fl
          induction fl with
          | nil =>
            intro off kt hk hl m1 m2
            simp [eqGo] at hk
            subst hk
            simp at m1 m2
            have e1 : cs.drop off = [] := List.drop_eq_nil_of_le m1
            have e2 : ds.drop off = [] := List.drop_eq_nil_of_le m2
            rw [e1, e2]
            simp [Op.eqFields, eqCells]
          | cons f fl ih =>
            intro off kt hk hl m1 m2
            unfold eqGo at hk
            split at hk
            · cases hk
            · rename_i hno
              simp only [Bool.or_eq_true, decide_eq_true_eq, bne_iff_ne, ne_eq, not_or, Decidable.not_not] at hno
              obtain ⟨hname, hoff⟩ := hno
              cases hk1 : eqTy P d f.type with
              | none => simp [hk1] at hk
              | some kf =>
                rw [hk1] at hk
                simp only at hk
                split at hk
                · rename_i hcond
                  simp only [Bool.and_eq_true] at hcond
                  obtain ⟨hsz, hag⟩ := hcond
                  cases hk2 : eqGo P (eqTy P d) fl (off + kf.length) with
                  | none => simp [hk2] at hk
                  | some kr =>
                    simp [hk2] at hk
                    subst hk
                    have hcl := hc.length
                    have hdl := hd.length
                    have ml1 : (cs.drop off).length = kf.length + kr.length := by have := congrArg List.length m1; simpa using this
                    have ml2 : (ds.drop off).length = kf.length + kr.length := by have := congrArg List.length m2; simpa using this
                    simp only [List.length_drop] at ml1 ml2
                    simp only [List.length_append] at hl
                    have hn1 : isRowTy P f.type = false → kf.length = 1 := eqTy_len d f.type kf hk1
                    have p1 := part_valOf (P := P) hsz hag us off (by omega) hn1 w
                    have p2 := part_valOf (P := P) hsz hag vs off (by omega) hn1 w
                    have t1 : ((cs.drop off).take kf.length).map ckOf = kf.map some := by
                      rw [List.map_take, m1, List.map_append, List.take_left' (by simp)]
                    have t2 : ((ds.drop off).take kf.length).map ckOf = kf.map some := by
                      rw [List.map_take, m2, List.map_append, List.take_left' (by simp)]
                    have q := eq_ty d f.type kf hk1 _ _ _ _ ((hc.drop0 off).take0 kf.length) ((hd.drop0 off).take0 kf.length) t1 t2 e
                    have d1 : ((cs.drop (off + kf.length))).map ckOf = kr.map some := by
                      rw [← List.drop_drop, List.map_drop, m1, List.map_append, List.drop_left' (by simp)]
                    have d2 : ((ds.drop (off + kf.length))).map ckOf = kr.map some := by
                      rw [← List.drop_drop, List.map_drop, m2, List.map_append, List.drop_left' (by simp)]
                    have r := ih (off + kf.length) kr hk2 (by omega) d1 d2
                    have s1 : cs.drop off = (cs.drop off).take kf.length ++ cs.drop (off + kf.length) := by rw [← List.drop_drop, List.take_append_drop]
                    have s2 : ds.drop off = (ds.drop off).take kf.length ++ ds.drop (off + kf.length) := by rw [← List.drop_drop, List.take_append_drop]
                    rw [s1, s2, eqCells_append _ _ _ _ (by rw [List.length_take, List.length_take, List.length_drop, List.length_drop, ml1, ml2])]
                    simp only [Op.eqFields, ne_eq, hname, not_false_eq_true, if_true, Sem.run_bind, hoff, p1, Result.andThen_ok, p2, q]
                    cases eqCells ((cs.drop off).take kf.length) ((ds.drop off).take kf.length)
                    · simp
                    · simpa using r
                · cases hk
        have := key fs.toList 0 ks h (by have := congrArg List.length h1; rw [hc.length]; simpa using this.symm) (by simpa using h1) (by simpa using h2)
        simpa using this
    · cases h

section
variable {E : Env} {st : St} {a : Act} {w : World} {pl : Pls} {fp : Nat → List Nat} {o : Oper} {k : Nat}

theorem g_eqs {op : BinOp} {ng : Bool} {ks : List CK} {t t' : TypeId} {x y : Operand} {x' y' : AOpr} (hR : RelW E st a w pl fp) (ho : o.op = .binOp op t x y t') (he : op = if ng then .neq else .eql) (h2 : chkX x x' = true) (h3 : chkX y y' = true)
    (ht : eqTy E.P 8 t = some ks) (hg : E.P.eqGuardType E.P.depth t = false) (hag : aggIs E.P t true = true) (hp : pop st k (.eqs ng ks x' y')) : Gives E st a w pl fp o (vop st k (.eqs ng ks x' y')) := by
  obtain ⟨hx, hy, hm⟩ := hp
  have vx := opr_sound hR h2 hx
  have vy := opr_sound hR h3 hy
  simp only [vop]
  revert vx vy hm
  generalize st.val x' = X
  generalize st.val y' = Y
  generalize hu : a.eval x = u
  generalize hv : a.eval y = v
  intro hm vx vy
  cases X <;> cases Y <;> first | exact hm.elim | skip
  rename_i cs ds
  obtain ⟨us, rfl, hc, -⟩ := inv_agg vx
  obtain ⟨vs, rfl, hd, -⟩ := inv_agg vy
  obtain ⟨m1, m2⟩ := hm
  have hrow : isRowTy E.P t = true := by
    cases hr : isRowTy E.P t with
    | true => rfl
    | false =>
      exfalso
      obtain ⟨d, hd', hrow⟩ := aggIs_true hag
      unfold eqTy at ht
      rw [hd'] at ht
      unfold isRowTy at hr
      rw [hd'] at hr
      cases d <;> simp [TypeDesc.isRow] at hrow hr <;> simp at ht
  have h := eq_ty 8 t ks ht cs ds us vs hc hd m1 m2 9992
  simp only [hrow, valOf, if_true] at h
  have h' : (Op.equalIn 10000 t (.agg us.toArray) (.agg vs.toArray)).run E.P w = .ok (eqCells cs ds) w := h
  have hgd := run_eqGuard_agg (P := E.P) w op t x y us.toArray vs.toArray hg
  refine ⟨.bool (if ng then !eqCells cs ds else eqCells cs ds), ?_, Vals.bool .nil⟩
  cases ng
  · simp only [Bool.false_eq_true, if_false] at he; subst he
    simp only [execOp, ho, hu, hv, Sem.run_bind, hgd, Result.andThen_ok, run_eql_struct, h']
    rfl
  · simp only [if_true] at he; subst he
    simp only [execOp, ho, hu, hv, Sem.run_bind, hgd, Result.andThen_ok, run_neq_struct, h']
    rfl

theorem execOp_builtin {c : Call} {b : Builtin} (ho : o.op = .call c) (hc : c.callee = .builtin b) (a : Act) : ∃ cs, execOp a.eval o = builtin b c.argTypes o.type cs (c.args.map a.eval) :=
  ⟨_, by simp only [execOp, ho, resolve, hc]; rfl⟩

theorem g_len {c : Call} {s : Bool} {x : Operand} {x' : AOpr} {t : TypeId} (hR : RelW E st a w pl fp) (ho : o.op = .call c) (hc : c.callee = .builtin .len) (ha : c.args.toList = [x]) (ht : c.argTypes[0]? = some t)
    (hu : (s = true ∧ E.P.underlying t = some .string) ∨ (s = false ∧ ∃ e, E.P.underlying t = some (.slice e))) (h2 : chkX x x' = true) (hp : pop st k (.len s x')) : Gives E st a w pl fp o (vop st k (.len s x')) := by
  obtain ⟨hx, hm⟩ := hp
  have hv := opr_sound hR h2 hx
  obtain ⟨cs, he⟩ := execOp_builtin ho hc a
  have ha' : c.args = #[x] := by apply Array.ext'; simpa using ha
  simp only [vop]
  revert hv hm
  generalize st.val x' = X
  generalize hu' : a.eval x = u
  intro hm hv
  have hrs : ∀ z, s = true → u = .string z → (execOp a.eval o).run E.P w = .ok (.value (.int .i64 z.size)) w := by
    intro z hs hz
    rcases hu with ⟨_, hu⟩ | ⟨h, _⟩
    · rw [he]
      have h0 : (c.args.map a.eval)[0]? = some (.string z) := by rw [ha']; simp [hu', hz]
      simp [builtin, Builtin.len_, ht, h0, run_underlying hu, goInt]
    · rw [hs] at h; cases h
  have hrl : ∀ A n c', s = false → u = .slice A n c' → (execOp a.eval o).run E.P w = .ok (.value (.int .i64 n)) w := by
    intro A n c' hs hz
    rcases hu with ⟨h, _⟩ | ⟨_, e, hu⟩
    · rw [hs] at h; cases h
    · rw [he]
      have h0 : (c.args.map a.eval)[0]? = some (.slice A n c') := by rw [ha']; simp [hu', hz]
      simp [builtin, Builtin.len_, ht, h0, run_underlying hu, goInt]
  cases X <;> first | exact hm.elim | skip
  · obtain ⟨rfl, -⟩ := inv_str hv
    exact ⟨_, hrs _ hm rfl, .int .nil⟩
  · rename_i K xs
    have : ∃ A c, u = .slice A xs.length c := by cases hv <;> exact ⟨_, _, rfl⟩
    obtain ⟨A, c', hz⟩ := this
    exact ⟨_, hrl A _ c' hm hz, .int .nil⟩
  · rename_i r off n
    have : ∃ A c, u = .slice A n c := by cases hv <;> exact ⟨_, _, rfl⟩
    obtain ⟨A, c', hz⟩ := this
    exact ⟨_, hrl A _ c' hm hz, .int .nil⟩

theorem fold_max (P : Program) (w : World) {O : Nat → Prop} {B : Nat} {pl : Pls} : ∀ (xs : List AV) (us : List Value) (x : AV) (u : Value), Vals w O B pl [x] [u] [] → isInt x = true → Vals w O B pl xs us [] → (∀ y ∈ xs, isInt y = true) →
    ∃ v, (us.foldlM Builtin.max2 u).run P w = .ok v w ∧ Vals w O B pl [maxI (x :: xs)] [v] []
  | [], us, x, u, hx, hi, hc, _ => by cases hc; exact ⟨u, by simp, by simpa [maxI] using hx⟩
  | y :: xs, us, x, u, hx, hi, hc, ha => by
    obtain ⟨v, us', rfl, h1, h2⟩ := hc.uncons0
    obtain ⟨k1, n, rfl, rfl⟩ := inv_isInt hx hi
    obtain ⟨k2, m, rfl, rfl⟩ := inv_isInt h1 (ha y (by simp))
    obtain ⟨v, h3, h4⟩ := fold_max P w xs us' (.int k1 (if m > n then m else n)) (.int k1 (if m > n then m else n)) (.int .nil) rfl h2 (fun z hz => ha z (by simp [hz]))
    refine ⟨v, ?_, by rw [maxI]; exact h4⟩
    simpa [List.foldlM_cons, Builtin.max2] using h3
theorem fold_min (P : Program) (w : World) {O : Nat → Prop} {B : Nat} {pl : Pls} : ∀ (xs : List AV) (us : List Value) (x : AV) (u : Value), Vals w O B pl [x] [u] [] → isInt x = true → Vals w O B pl xs us [] → (∀ y ∈ xs, isInt y = true) →
    ∃ v, (us.foldlM Builtin.min2 u).run P w = .ok v w ∧ Vals w O B pl [minI (x :: xs)] [v] []
  | [], us, x, u, hx, hi, hc, _ => by cases hc; exact ⟨u, by simp, by simpa [minI] using hx⟩
  | y :: xs, us, x, u, hx, hi, hc, ha => by
    obtain ⟨v, us', rfl, h1, h2⟩ := hc.uncons0
    obtain ⟨k1, n, rfl, rfl⟩ := inv_isInt hx hi
    obtain ⟨k2, m, rfl, rfl⟩ := inv_isInt h1 (ha y (by simp))
    obtain ⟨v, h3, h4⟩ := fold_min P w xs us' (.int k1 (if m < n then m else n)) (.int k1 (if m < n then m else n)) (.int .nil) rfl h2 (fun z hz => ha z (by simp [hz]))
    refine ⟨v, ?_, by rw [minI]; exact h4⟩
    simpa [List.foldlM_cons, Builtin.min2] using h3

theorem g_mx {c : Call} {l : List AOpr} (hR : RelW E st a w pl fp) (ho : o.op = .call c) (hc : c.callee = .builtin .max) (h2 : chkXs c.args.toList l = true) (hp : pop st k (.mx l)) : Gives E st a w pl fp o (vop st k (.mx l)) := by
  obtain ⟨h1, hne⟩ := hp
  obtain ⟨cs, he⟩ := execOp_builtin ho hc a
  have hv := oprs_sound hR _ _ h2 (fun y hy => (h1 y hy).1)
  cases l with
  | nil => exact absurd rfl hne
  | cons y l =>
    obtain ⟨u, us, hus, hv1, hv2⟩ := hv.uncons0
    obtain ⟨v, h3, h4⟩ := fold_max E.P w _ us _ u hv1 (h1 y (by simp)).2 hv2 (by intro z hz; simp at hz; obtain ⟨q, hq, rfl⟩ := hz; exact (h1 q (by simp [hq])).2)
    refine ⟨v, ?_, by simpa [vop] using h4⟩
    rw [he]
    simp [builtin, Builtin.max_, hus, h3]
theorem g_mn {c : Call} {l : List AOpr} (hR : RelW E st a w pl fp) (ho : o.op = .call c) (hc : c.callee = .builtin .min) (h2 : chkXs c.args.toList l = true) (hp : pop st k (.mn l)) : Gives E st a w pl fp o (vop st k (.mn l)) := by
  obtain ⟨h1, hne⟩ := hp
  obtain ⟨cs, he⟩ := execOp_builtin ho hc a
  have hv := oprs_sound hR _ _ h2 (fun y hy => (h1 y hy).1)
  cases l with
  | nil => exact absurd rfl hne
  | cons y l =>
    obtain ⟨u, us, hus, hv1, hv2⟩ := hv.uncons0
    obtain ⟨v, h3, h4⟩ := fold_min E.P w _ us _ u hv1 (h1 y (by simp)).2 hv2 (by intro z hz; simp at hz; obtain ⟨q, hq, rfl⟩ := hz; exact (h1 q (by simp [hq])).2)
    refine ⟨v, ?_, by simpa [vop] using h4⟩
    rw [he]
    simp [builtin, Builtin.min_, hus, h3]
end
end Go.Amb

set_option linter.unusedSimpArgs false
set_option linter.unusedVariables false
namespace Go.Amb
open Go Go.RowKit

theorem Keeps.trans {G : Nat → Prop} {a b c : World} (h : Keeps G a b) (k : Below b.heap.size b c) : Keeps G a c :=
  ⟨k.os.trans h.os, k.tape.trans h.tape, k.output.trans h.output, Nat.le_trans h.size k.size, fun x hx hg => (k.block x (Nat.lt_of_lt_of_le hx h.size)).trans (h.block x hx hg)⟩

theorem RootRel.move {w w' : World} {O O' : Nat → Prop} {B B' : Nat} {pl pl' : Pls} {r : Nat} {blk : Blk} {f : List Nat} (h : RootRel w O B pl r blk f)
    (h1 : ∀ b, (b ∈ f ∨ ¬ O b) → b < w.heap.size → w'.heap[b]? = w.heap[b]?) (h2 : w.heap.size ≤ w'.heap.size) (h3 : ∀ b, b < w.heap.size → ¬ O b → ¬ O' b) (h4 : B' ≤ B) (h5 : ∀ r p, pl r = some p → pl' r = some p) :
    RootRel w' O' B' pl' r blk f := by
  cases h with
  | emp h he hz => exact .emp (h5 _ _ h) he hz
  | blk h hr hl hz hu ho hn hc ha =>
    have hs := h1 _ (.inl List.mem_cons_self) hl
    refine .blk (h5 _ _ h) (hr.move hs) (by omega) hz hu ho hn ?_ (ha.move hs)
    cases hb : blk.box with
    | true => rw [hb] at hc; exact hc.move (fun b hb' hl => h1 b (hb'.imp (List.mem_cons_of_mem _) id) hl) h2 h3 h4 pl' h5
    | false => rw [hb] at hc; exact hc.move (fun b hb' hl => h1 b (hb'.imp (List.mem_cons_of_mem _) id) hl) h2 h3 h4 noPl (fun _ _ h => h)

section
variable {E : Env} {st : St} {a : Act} {w w' : World} {pl : Pls} {fp : Nat → List Nat}

/-- Memory has grown: nothing of what was there has turned. -/
theorem RelW.ext (hR : RelW E st a w pl fp) (h : Below w.heap.size w w') : RelW E st a w' pl fp :=
  { size := hR.size, defers := hR.defers, plx := hR.plx, unused := hR.unused, used := hR.used, usnb := hR.usnb
    roots := fun r blk hb => (hR.roots r blk hb).move (fun b _ hl => h.block b hl) h.size (fun _ _ h => h) (Nat.le_refl _) (fun _ _ h => h)
    nodup := hR.nodup
    own := fun r hr b hb => ⟨Nat.lt_of_lt_of_le (hR.own r hr b hb).1 h.size, (hR.own r hr b hb).2⟩
    disj := hR.disj, xold := hR.xold, gold := hR.gold
    tmps := fun d hd => by
      obtain ⟨u, h1, h2⟩ := hR.tmps d hd
      exact ⟨u, h1, h2.move (fun b _ hl => h.block b hl) h.size (fun _ _ h => h) (Nat.le_refl _) _ (fun _ _ h => h)⟩
    keeps := hR.keeps.trans h }

theorem Vals.ext {O : Nat → Prop} {B : Nat} {vs : List AV} {us : List Value} {f : List Nat} (hv : Vals w O B pl vs us f) (h : Below w.heap.size w w') : Vals w' O B pl vs us f :=
  hv.move (fun b _ hl => h.block b hl) h.size (fun _ _ h => h) (Nat.le_refl _) _ (fun _ _ h => h)

theorem own_put (d : Option Nat) (v : AV) : Own E (st.put d v) fp = Own E st fp := by cases d <;> rfl

/-- A value goes into its slot. -/
theorem RelW.put (hR : RelW E st a w pl fp) {v : AV} {u : Value} (hv : Vals w (Own E st fp) E.w0.heap.size pl [v] [u] []) (d : Option Nat) (hd : chkD E.n d = true) : RelW E (st.put d v) (a.put d u) w pl fp := by
  cases d with
  | none => exact hR
  | some d =>
    simp only [chkD, decide_eq_true_eq] at hd
    exact
      { size := by simp [Act.put, hR.size], defers := hR.defers, plx := hR.plx, unused := hR.unused, used := hR.used, usnb := hR.usnb, roots := hR.roots, nodup := hR.nodup, own := hR.own, disj := hR.disj, xold := hR.xold, gold := hR.gold
        tmps := fun e he => by
          by_cases hde : e = d
          · subst hde
            refine ⟨u, ?_, ?_⟩
            · simp only [Act.put]
              rw [Array.getElem?_setIfInBounds_self_of_lt (by rw [hR.size]; exact hd)]
            · have : (st.put (some e) v).tmp e = v := by simp [St.put, tupd]
              rw [this]; exact hv
          · have h1 : (st.put (some d) v).tmp e = st.tmp e := by simp [St.put, tupd, hde]
            rw [h1] at he ⊢
            obtain ⟨u', h2, h3⟩ := hR.tmps e he
            refine ⟨u', ?_, h3⟩
            simp only [Act.put]
            rw [Array.getElem?_setIfInBounds_ne (fun h => hde h.symm)]
            exact h2
        keeps := hR.keeps }

/-- Of a skipped operation's slot nothing is known. -/
theorem RelW.skip (hR : RelW E st a w pl fp) (d : Option Nat) (hd : chkD E.n d = true) (u : Value) : RelW E (st.put d .undef) (a.put d u) w pl fp := by
  cases d with
  | none => exact hR
  | some d =>
    exact
      { size := by simp [Act.put, hR.size], defers := hR.defers, plx := hR.plx, unused := hR.unused, used := hR.used, usnb := hR.usnb, roots := hR.roots, nodup := hR.nodup, own := hR.own, disj := hR.disj, xold := hR.xold, gold := hR.gold
        tmps := fun e he => by
          by_cases hde : e = d
          · subst hde; exact absurd (by simp [St.put, tupd]) he
          · have h1 : (st.put (some d) .undef).tmp e = st.tmp e := by simp [St.put, tupd, hde]
            rw [h1] at he ⊢
            obtain ⟨u', h2, h3⟩ := hR.tmps e he
            refine ⟨u', ?_, h3⟩
            simp only [Act.put]
            rw [Array.getElem?_setIfInBounds_ne (fun h => hde h.symm)]
            exact h2
        keeps := hR.keeps }

/-- A slot that is known under its guard alone. -/
theorem RelW.putg (hR : RelW E st a w pl fp) {v : AV} {u : Value} (g : Bool) (hv : g = true → Vals w (Own E st fp) E.w0.heap.size pl [v] [u] []) (hu : g = false → u = undef) (d : Option Nat) (hd : chkD E.n d = true) : RelW E (st.put d (.grd g v)) (a.put d u) w pl fp :=
  hR.put (.grd hv hu .nil) d hd

def plAdd (pl : Pls) (r : Nat) (p : Pl) : Pls := fun j => if j = r then some p else pl j
def fpAdd (fp : Nat → List Nat) (r : Nat) (f : List Nat) : Nat → List Nat := fun j => if j = r then f else fp j

theorem alloc_heap_old (w : World) (o : Obj) (b : Nat) (h : b < w.heap.size) : (w.alloc o).heap[b]? = w.heap[b]? := Below.heap_alloc w o b h
theorem alloc_size (w : World) (o : Obj) : (w.alloc o).heap.size = w.heap.size + 1 := by show (w.heap.push o).size = _; simp
theorem below_alloc' (w : World) (o : Obj) : Below w.heap.size w (w.alloc o) := (Below.refl _ _).alloc (Nat.le_refl _) o

/-- A new root over new memory. -/
theorem RelW.root (hR : RelW E st a w pl fp) (hB : Below w.heap.size w w') {r : Nat} (hus : st.us r = false) {blk : Blk} {p : Pl} {f : List Nat} (hf : ∀ b ∈ f, w.heap.size ≤ b ∧ b < w'.heap.size) (hnd : f.Nodup)
    (hroot : RootRel w' (Own E { st with heap := hupd st.heap r (some blk), us := uupd st.us r } (fpAdd fp r f)) E.w0.heap.size (plAdd pl r p) r blk f) :
    RelW E { st with heap := hupd st.heap r (some blk), us := uupd st.us r } a w' (plAdd pl r p) (fpAdd fp r f) := by
  have hnone : st.heap r = none := by
    cases h : st.heap r with
    | none => rfl
    | some x => have := hR.used r (by simp [h]); rw [hus] at this; cases this
  have hplr : pl r = none := hR.unused r hus
  have hplx : ∀ q x, pl q = some x → plAdd pl r p q = some x := by
    intro q x hq
    have : q ≠ r := by intro e; subst e; rw [hplr] at hq; cases hq
    simp [plAdd, this, hq]
  have hO : ∀ b, b < w.heap.size → ¬ Own E st fp b → ¬ Own E { st with heap := hupd st.heap r (some blk), us := uupd st.us r } (fpAdd fp r f) b := by
    rintro b hb hn (hx | ⟨q, hq, hbq⟩)
    · exact hn (.inl hx)
    · by_cases hqr : q = r
      · subst hqr
        simp [fpAdd] at hbq
        have := (hf b hbq).1
        omega
      · refine hn (.inr ⟨q, ?_, ?_⟩)
        · simpa [hupd, hqr] using hq
        · simpa [fpAdd, hqr] using hbq
  have hw0 := hR.keeps.size
  exact
    { size := hR.size, defers := hR.defers
      plx := fun q hq => by
        have hne : q ≠ r := by intro e; subst e; have := hR.usnb q hq; rw [hus] at this; cases this
        simp [plAdd, hne, hR.plx q hq]
      unused := fun q hq => by
        by_cases hne : q = r
        · subst hne; simp [uupd] at hq
        · simp [uupd, hne] at hq
          simp [plAdd, hne, hR.unused q hq]
      used := fun q hq => by
        by_cases hne : q = r
        · simp [uupd, hne]
        · simp [hupd, hne] at hq
          simp [uupd, hne, hR.used q hq]
      usnb := fun q hq => by
        by_cases hne : q = r
        · simp [uupd, hne]
        · simp [uupd, hne, hR.usnb q hq]
      roots := fun q b hb => by
        by_cases hne : q = r
        · subst hne
          simp [hupd] at hb
          subst hb
          simpa [fpAdd] using hroot
        · simp [hupd, hne] at hb
          have := (hR.roots q b hb).move (w' := w') (O' := Own E { st with heap := hupd st.heap r (some blk), us := uupd st.us r } (fpAdd fp r f)) (fun b _ hl => hB.block b hl) hB.size hO (Nat.le_refl _) hplx
          simpa [fpAdd, hne] using this
      nodup := fun q hq => by
        by_cases hne : q = r
        · subst hne; simpa [fpAdd] using hnd
        · simp [hupd, hne] at hq
          simpa [fpAdd, hne] using hR.nodup q hq
      own := fun q hq b hb => by
        by_cases hne : q = r
        · subst hne
          simp [fpAdd] at hb
          have := hf b hb
          exact ⟨this.2, .inl (by omega), fun hx => by have := hR.xold b hx; omega⟩
        · simp [hupd, hne] at hq
          simp [fpAdd, hne] at hb
          have := hR.own q hq b hb
          exact ⟨Nat.lt_of_lt_of_le this.1 hB.size, this.2⟩
      disj := fun q q' b hq hq' hne hb hb' => by
        by_cases h1 : q = r
        · subst h1
          have h2 : q' ≠ q := fun e => hne e.symm
          simp [hupd, h2] at hq'
          simp [fpAdd] at hb
          simp [fpAdd, h2] at hb'
          have := (hR.own q' hq' b hb').1
          have := (hf b hb).1
          omega
        · by_cases h2 : q' = r
          · subst h2
            simp [hupd, h1] at hq
            simp [fpAdd] at hb'
            simp [fpAdd, h1] at hb
            have := (hR.own q hq b hb).1
            have := (hf b hb').1
            omega
          · simp [hupd, h1] at hq
            simp [hupd, h2] at hq'
            simp [fpAdd, h1] at hb
            simp [fpAdd, h2] at hb'
            exact hR.disj q q' b hq hq' hne hb hb'
      xold := hR.xold, gold := hR.gold
      tmps := fun d hd => by
        obtain ⟨u, h1, h2⟩ := hR.tmps d hd
        exact ⟨u, h1, h2.move (fun b _ hl => hB.block b hl) hB.size hO (Nat.le_refl _) _ hplx⟩
      keeps := hR.keeps.trans hB }
end
end Go.Amb

set_option linter.unusedSimpArgs false
set_option linter.unusedVariables false
namespace Go.Amb
open Go Go.RowKit

section
variable {E : Env} {st : St} {a : Act} {w w' : World} {pl : Pls} {fp : Nat → List Nat} {o : Oper} {k : Nat}

theorem at_new {w : World} {c : Array Value} {t : TypeId} : At (w.alloc (.cells c t)) w.heap.size 0 c.toList := by
  intro k v hk
  have h := heap_alloc_new w (.cells c t)
  simp only [World.cell?, h]
  simpa using hk
theorem row_new {w : World} {c : Array Value} {t : TypeId} {n : Nat} (h : c.size = n) (h1 : ∀ v ∈ c.toList, v.oneCell' = true) : RowAt (w.alloc (.cells c t)) w.heap.size n := ⟨c, t, (0, 0), heap_alloc_new w _, h, Nat.le_refl _, h1⟩

theorem cells_one {v : AV} (h : v.one = true ∨ ∃ cs, v = .agg cs ∧ ∀ c ∈ cs, c.one = true) : ∀ c ∈ cellsOf v, c.one = true := by
  rcases h with h | ⟨cs, rfl, h⟩
  · have : cellsOf v = [v] := by cases v <;> simp_all [cellsOf, AV.one]
    rw [this]; simpa using h
  · exact h

/-- A value moves into a new variable. -/
theorem box_root (hR : RelW E st a w pl fp) {v : AV} {u : Value} {sz : Nat} {ty : TypeId} (hv : Vals w (Own E st fp) E.w0.heap.size pl [v] [u] []) (hsz : (cellsOf v).length = sz) (h0 : 0 < sz) (h1 : v.one = true ∨ ∃ cs, v = .agg cs)
    (hus : st.us (st.nx + k) = false) : ∃ pl' fp', RelW E (st.make k (some ⟨sz, true, [v]⟩)) a (w.alloc (.cells u.cells ty)) pl' fp' ∧
      Vals (w.alloc (.cells u.cells ty)) (Own E (st.make k (some ⟨sz, true, [v]⟩)) fp') E.w0.heap.size pl' [.ptr (st.nx + k) 0 0] [.pointer (some ⟨w.heap.size, 0, none⟩)] [] := by
  have hB := below_alloc' w (.cells u.cells ty)
  have hc := cells_of hv h1
  have hlen := hc.length
  have hone : ∀ c ∈ cellsOf v, c.one = true := by
    refine cells_one (h1.imp id ?_)
    rintro ⟨cs, rfl⟩
    obtain ⟨us, _, _, h⟩ := inv_agg hv
    exact ⟨cs, rfl, h⟩
  have hs : u.cells.size = sz := by simpa [hsz] using hlen
  have hpl : pl (st.nx + k) = none := hR.unused _ hus
  let p : Pl := ⟨some w.heap.size, 0, sz, 1⟩
  have hroot : ∀ O', (∀ b, b < w.heap.size → ¬ Own E st fp b → ¬ O' b) → RootRel (w.alloc (.cells u.cells ty)) O' E.w0.heap.size (plAdd pl (st.nx + k) p) (st.nx + k) ⟨sz, true, [v]⟩ [w.heap.size] := by
    intro O' hO
    refine .blk (b := w.heap.size) (j := 0) (cap := 1) (cs := u.cells.toList) (by simp [plAdd, p]) (row_new (by simp [hs]) (vals_oneCell hc hone)) (by rw [alloc_size]; omega) h0 (by simp [hsz]) (by simpa [flat] using hone) (by simp) ?_ (by simpa using at_new)
    simp only [if_true, flat, List.flatMap_cons, List.flatMap_nil, List.append_nil]
    refine hc.move (fun b _ hl => hB.block b hl) hB.size hO (Nat.le_refl _) _ (fun q x hq => ?_)
    have : q ≠ st.nx + k := by intro e; subst e; rw [hpl] at hq; cases hq
    simp [plAdd, this, hq]
  have hO : ∀ b, b < w.heap.size → ¬ Own E st fp b → ¬ Own E { st with heap := hupd st.heap (st.nx + k) (some ⟨sz, true, [v]⟩), us := uupd st.us (st.nx + k) } (fpAdd fp (st.nx + k) [w.heap.size]) b := by
    rintro b hb hn (hx | ⟨q, hq, hbq⟩)
    · exact hn (.inl hx)
    · by_cases hqr : q = st.nx + k
      · subst hqr
        simp [fpAdd] at hbq
        omega
      · refine hn (.inr ⟨q, ?_, ?_⟩)
        · simpa [hupd, hqr] using hq
        · simpa [fpAdd, hqr] using hbq
  refine ⟨_, _, hR.root hB hus (f := [w.heap.size]) (by simp [alloc_size]) (by simp) (hroot _ hO), ?_⟩
  have := Vals.ptr (w := w.alloc (.cells u.cells ty)) (O := Own E (st.make k (some ⟨sz, true, [v]⟩)) (fpAdd fp (st.nx + k) [w.heap.size])) (B := E.w0.heap.size) (pl := plAdd pl (st.nx + k) p) (r := st.nx + k) (i := 0) (o := 0) (b := w.heap.size) (j := 0) (sz := sz) (cap := 1) (by simp [plAdd, p]) .nil
  simpa using this

/-- What an operation gives that makes memory. -/
def Makes (E : Env) (st : St) (a : Act) (w : World) (o : Oper) (blk : Option Blk) (k : Nat) (v : AV) : Prop :=
  ∃ u w' pl' fp', (execOp a.eval o).run E.P w = .ok (.value u) w' ∧ RelW E (st.make k blk) a w' pl' fp' ∧ Vals w' (Own E (st.make k blk) fp') E.w0.heap.size pl' [v] [u] []

theorem Gives.makes {v : AV} (hR : RelW E st a w pl fp) (h : Gives E st a w pl fp o v) : Makes E st a w o none k v := by
  obtain ⟨u, h1, h2⟩ := h
  exact ⟨u, w, pl, fp, h1, hR, h2⟩

theorem g_alloc {t : TypeId} {sz : Nat} {ag : Bool} {z : List CV} (hR : RelW E st a w pl fp) (ho : o.op = .alloc t) (hz : zeroIs E.P t ag z = true) (hs : szIs E.P t sz = true) (hp : pop st k (.alloc sz ag z)) :
    Makes E st a w o (rop st (.alloc sz ag z)) k (vop st k (.alloc sz ag z)) := by
  obtain ⟨hus, hlen, h0⟩ := hp
  cases ag with
  | true =>
    obtain ⟨i, cs, hi, hzero, hcs⟩ := zeroIs_true hz
    obtain ⟨h1, h2⟩ := chkCs_sound (w := w) (O := Own E st fp) (B := E.w0.heap.size) (pl := pl) _ _ hcs
    have hv : Vals w (Own E st fp) E.w0.heap.size pl [.agg (z.map CV.av)] [.agg cs] [] := by simpa using Vals.agg (fp := []) h2 h1 .nil
    obtain ⟨pl', fp', hR', hv'⟩ := box_root (k := k) (ty := t) hR hv (sz := sz) (by simpa [cellsOf] using hlen) h0 (.inr ⟨_, rfl⟩) hus
    refine ⟨_, _, pl', fp', ?_, by simpa [rop] using hR', by simpa [rop, vop] using hv'⟩
    simp only [execOp, ho, Instr.alloc, zeroValue, typeInfo, Sem.run_bind, run_program, Result.andThen_ok, hi, Sem.run_pure, hzero, newVar, newRow, newObj, Sem.run]
    rfl
  | false =>
    obtain ⟨i, v, hi, hzero, hna, hcs⟩ := zeroIs_false hz
    obtain ⟨h1, h2⟩ := chkCs_sound (w := w) (O := Own E st fp) (B := E.w0.heap.size) (pl := pl) _ _ hcs
    have hl := h1.length
    obtain ⟨c, hc⟩ : ∃ c, z = [c] := List.length_eq_one_iff.1 (by simpa using hl.symm)
    subst hc
    have h1' : Vals w (Own E st fp) E.w0.heap.size pl [c.av] [v] [] := by simpa using h1
    have hone : c.av.one = true := h2 _ (by simp)
    have hcell : cellsOf c.av = [c.av] := by
      generalize c.av = x at hone
      cases x <;> simp_all [cellsOf, AV.one]
    obtain ⟨pl', fp', hR', hv'⟩ := box_root (k := k) (ty := t) hR h1' (sz := sz) (by rw [hcell]; simpa using hlen) h0 (.inl hone) hus
    refine ⟨_, _, pl', fp', ?_, by simpa [rop] using hR', by simpa [rop, vop] using hv'⟩
    simp only [execOp, ho, Instr.alloc, zeroValue, typeInfo, Sem.run_bind, run_program, Result.andThen_ok, hi, Sem.run_pure, hzero, newVar, newRow, newObj, Sem.run]
    rfl

theorem g_box {t : TypeId} {sz : Nat} {ag : Bool} {x : Operand} {x' : AOpr} (hR : RelW E st a w pl fp) (ho : o.op = .box t x) (h2 : chkX x x' = true) (hp : pop st k (.box sz ag x')) :
    Makes E st a w o (rop st (.box sz ag x')) k (vop st k (.box sz ag x')) := by
  obtain ⟨hus, h0, hx, hm⟩ := hp
  have hv := opr_sound hR h2 hx
  have h1 : (st.val x').one = true ∨ ∃ cs, st.val x' = .agg cs := by
    revert hm
    generalize st.val x' = X
    intro hm
    cases X <;> first | exact .inr ⟨_, rfl⟩ | exact .inl hm.2.2
  have hsz : (cellsOf (st.val x')).length = sz := by
    revert hm
    generalize st.val x' = X
    intro hm
    cases X <;> first | exact hm.2 | (simp [cellsOf]; exact hm.2.1.symm)
  obtain ⟨pl', fp', hR', hv'⟩ := box_root (k := k) (ty := t) hR hv hsz h0 h1 hus
  refine ⟨_, _, pl', fp', ?_, by simpa [rop] using hR', by simpa [rop, vop] using hv'⟩
  simp only [execOp, ho, Instr.box, newVar, newRow, newObj, Sem.run_bind, Sem.run, Result.andThen_ok]
  rfl
end
end Go.Amb

set_option linter.unusedSimpArgs false
set_option linter.unusedVariables false
namespace Go.Amb
open Go Go.RowKit

theorem zero_cells (zero : Array Value) (sz : Nat) (h : zero.size = sz) (h0 : 0 < sz) : ∀ n, ((Array.range (n * sz)).map (zero[· % zero.size]!)).toList = (List.replicate n zero.toList).flatten
  | 0 => by simp
  | n + 1 => by
    have ih := zero_cells zero sz h h0 n
    simp only [Array.toList_map, Array.toList_range] at ih ⊢
    rw [Nat.add_mul, Nat.one_mul, List.range_add, List.map_append, ih, List.replicate_succ', List.flatten_append]
    congr 1
    simp only [List.map_map, List.flatten_cons, List.flatten_nil, List.append_nil]
    apply List.ext_getElem
    · simp [h]
    · intro i h1 h2
      simp at h1
      simp only [List.getElem_map, List.getElem_range, Function.comp_apply, h]
      have e : (n * sz + i) % sz = i := by rw [Nat.mul_comm, Nat.mul_add_mod, Nat.mod_eq_of_lt h1]
      rw [e, getElem!_pos zero i (by omega)]
      simp

theorem flat_take {xs : List AV} {sz : Nat} (hu : ∀ x ∈ xs, (cellsOf x).length = sz) (i : Nat) (hi : i ≤ xs.length) : (flat xs).take (i * sz) = flat (xs.take i) := by
  have e : flat xs = flat (xs.take i) ++ flat (xs.drop i) := by rw [← flat_append, List.take_append_drop]
  rw [e]
  apply List.take_left'
  rw [flat_length (fun x hx => hu x (List.mem_of_mem_take hx)), List.length_take, Nat.min_eq_left hi]
theorem flat_drop {xs : List AV} {sz : Nat} (hu : ∀ x ∈ xs, (cellsOf x).length = sz) (i : Nat) (hi : i ≤ xs.length) : (flat xs).drop (i * sz) = flat (xs.drop i) := by
  have e : flat xs = flat (xs.take i) ++ flat (xs.drop i) := by rw [← flat_append, List.take_append_drop]
  rw [e]
  apply List.drop_left'
  rw [flat_length (fun x hx => hu x (List.mem_of_mem_take hx)), List.length_take, Nat.min_eq_left hi]
theorem flat_set {xs : List AV} {sz : Nat} (hu : ∀ x ∈ xs, (cellsOf x).length = sz) (i : Nat) (hi : i < xs.length) (v : AV) :
    flat (xs.set i v) = (flat xs).take (i * sz) ++ cellsOf v ++ (flat xs).drop (i * sz + sz) := by
  have e : i * sz + sz = (i + 1) * sz := by rw [Nat.add_mul, Nat.one_mul]
  rw [e, flat_take hu i (by omega), flat_drop hu (i + 1) (by omega), List.set_eq_take_append_cons_drop, if_pos hi, flat_append, flat_cons, List.append_assoc]

theorem asVar_cells {ag : Bool} {z : List AV} (h1 : ∀ c ∈ z, c.one = true) (h : ag = false → z.length = 1) : cellsOf (asVar ag z) = z := by
  cases ag with
  | true => rfl
  | false =>
    obtain ⟨c, rfl⟩ := List.length_eq_one_iff.1 (h rfl)
    have := h1 c (by simp)
    simp only [asVar, Bool.false_eq_true, if_false, List.headD_cons]
    cases c <;> simp_all [cellsOf, AV.one]

section
variable {E : Env} {st : St} {a : Act} {w w' : World} {pl : Pls} {fp : Nat → List Nat} {o : Oper} {k : Nat}

theorem lit_sound (hR : RelW E st a w pl fp) {sz n : Nat} {ag : Bool} : ∀ (ps : List (Nat × Operand)) (qs : List (Nat × AOpr)) (l : List AV) (cells : Array Value), chkIxs ps qs = true →
      (∀ p ∈ qs, st.ok p.2 ∧ p.1 < n ∧ (match st.val p.2 with | .agg cs => ag = true ∧ cs.length = sz | v => ag = false ∧ v.one = true)) → (ag = false → sz = 1) →
      l.length = n → (∀ x ∈ l, (cellsOf x).length = sz) → (∀ x ∈ flat l, x.one = true) → Vals w (Own E st fp) E.w0.heap.size pl (flat l) cells.toList [] →
      ∃ cells', Instr.fill (fun i => some (i * sz, sz)) cells (ps.map fun (i, x) => (i, a.eval x)) = some cells' ∧
        let l' := (qs.map fun (i, x) => (i, st.val x)).foldl (fun l p => l.set p.1 p.2) l
        Vals w (Own E st fp) E.w0.heap.size pl (flat l') cells'.toList [] ∧ l'.length = n ∧ (∀ x ∈ l', (cellsOf x).length = sz) ∧ ∀ x ∈ flat l', x.one = true
  | [], [], l, cells, _, _, _, hl, hu, h1, hv => ⟨cells, rfl, hv, hl, hu, h1⟩
  | (i, x) :: ps, (j, y) :: qs, l, cells, hc, hp, hag, hl, hu, h1, hv => by
    simp only [chkIxs, Bool.and_eq_true, decide_eq_true_eq] at hc
    obtain ⟨⟨rfl, hc2⟩, hc3⟩ := hc
    obtain ⟨hy, hlt, hm⟩ := hp (i, y) (by simp)
    simp only at hy hlt hm
    have hvy := opr_sound hR hc2 hy
    have hshape : ((st.val y).one = true ∨ ∃ cs, st.val y = .agg cs) ∧ (cellsOf (st.val y)).length = sz := by
      revert hm
      generalize st.val y = Y
      intro hm
      cases Y <;> first | exact ⟨.inr ⟨_, rfl⟩, hm.2⟩ | exact ⟨.inl hm.2, by simp [cellsOf]; exact (hag hm.1).symm⟩
    obtain ⟨hsh, hlen⟩ := hshape
    have hone : ∀ c ∈ cellsOf (st.val y), c.one = true := by
      refine cells_one (hsh.imp id ?_)
      rintro ⟨cs, e⟩
      rw [e] at hvy
      obtain ⟨us, _, _, h⟩ := inv_agg hvy
      exact ⟨cs, e, h⟩
    have hvc := cells_of hvy hsh
    have hcs : (a.eval x).cells.size = sz := by have := hvc.length; simpa [hlen] using this
    have hcz : cells.size = n * sz := by have := hv.length; rw [flat_length hu, hl] at this; simpa using this
    have hbound : i * sz + sz ≤ n * sz := by
      have : (i + 1) * sz ≤ n * sz := Nat.mul_le_mul_right _ hlt
      rwa [Nat.add_mul, Nat.one_mul] at this
    have hsp := zipIdx_fold (a.eval x).cells cells (i * sz) (by omega)
    rw [hcs] at hsp
    have hfl := flat_set hu i (by omega) (st.val y)
    have hv' : Vals w (Own E st fp) E.w0.heap.size pl (flat (l.set i (st.val y))) ((a.eval x).cells.zipIdx.foldl (fun (cs : Array Value) (p : Value × Nat) => match p with | (c, j) => cs.setIfInBounds (i * sz + j) c) cells).toList [] := by
      rw [hfl, hsp]
      exact splice_vals hv hvc _ _ (by simpa using hcs)
    have hu' : ∀ z ∈ l.set i (st.val y), (cellsOf z).length = sz := by
      intro z hz
      rcases List.mem_or_eq_of_mem_set hz with h | h
      · exact hu z h
      · subst h; exact hlen
    have h1' : ∀ z ∈ flat (l.set i (st.val y)), z.one = true := by rw [hfl]; exact one_all h1 hone
    obtain ⟨cells', h4, h5, h6, h7, h8⟩ := lit_sound hR ps qs _ _ hc3 (fun p hp' => hp p (by simp [hp'])) hag (by simpa using hl) hu' h1' hv'
    refine ⟨cells', ?_, h5, h6, h7, h8⟩
    simp only [List.map_cons, Instr.fill]
    have hcond : ((a.eval x).cells.size ≠ sz || i * sz + (a.eval x).cells.size > cells.size) = false := by simp; omega
    rw [if_neg (by rw [hcond]; simp)]
    exact h4
  | [], _ :: _, _, _, h, _, _, _, _, _, _ => by simp [chkIxs] at h
  | (_, _) :: _, [], _, _, h, _, _, _, _, _, _ => by simp [chkIxs] at h

theorem own_lt (hR : RelW E st a w pl fp) {b : Nat} (h : Own E st fp b) : b < w.heap.size := by
  rcases h with h | ⟨r, hr, hb⟩
  · have := hR.xold b h; have := hR.keeps.size; omega
  · exact (hR.own r hr b hb).1

theorem g_bsl {t e : TypeId} {len sz n : Nat} {ag : Bool} {ps : Array (Nat × Operand)} {z : List CV} {qs : List (Nat × AOpr)} (hR : RelW E st a w pl fp) (ho : o.op = .buildSlice t len ps) (he : elemIs E.P t = some e) (hs : szIs E.P e sz = true)
    (hz : zeroIs E.P e ag z = true) (hc : chkIxs ps.toList qs = true) (hn : len = n) (hp : pop st k (.bsl sz ag n z qs)) : Makes E st a w o (rop st (.bsl sz ag n z qs)) k (vop st k (.bsl sz ag n z qs)) := by
  subst hn
  obtain ⟨hzl, hag, h0, hps, hmax⟩ := hp
  have hzero : ∃ zv, (zeroValue e).run E.P w = .ok zv w ∧ zv.cells.size = sz ∧ Vals w (Own E st fp) E.w0.heap.size pl (z.map CV.av) zv.cells.toList [] ∧ ∀ c ∈ z.map CV.av, c.one = true := by
    cases ag with
    | true =>
      obtain ⟨i, cs, hi, hzero, hcs⟩ := zeroIs_true hz
      obtain ⟨h1, h2⟩ := chkCs_sound (w := w) (O := Own E st fp) (B := E.w0.heap.size) (pl := pl) _ _ hcs
      exact ⟨.agg cs, by simp [zeroValue, typeInfo, hi, hzero], by have := h1.length; simp at this; simp [Value.cells, this, hzl], by simpa [Value.cells] using h1, h2⟩
    | false =>
      obtain ⟨i, v, hi, hzero, hna, hcs⟩ := zeroIs_false hz
      obtain ⟨h1, h2⟩ := chkCs_sound (w := w) (O := Own E st fp) (B := E.w0.heap.size) (pl := pl) _ _ hcs
      have hvc : v.cells = #[v] := by cases v <;> first | rfl | exact absurd rfl (hna _)
      exact ⟨v, by simp [zeroValue, typeInfo, hi, hzero], by rw [hvc]; simp [hag rfl], by rw [hvc]; simpa using h1, h2⟩
  obtain ⟨zv, hzr, hzs, hzv, hz1⟩ := hzero
  have hze : cellsOf (asVar ag (z.map CV.av)) = z.map CV.av := asVar_cells hz1 (fun h => by simpa [hzl] using hag h)
  have hrep : flat (List.replicate len (asVar ag (z.map CV.av))) = (List.replicate len (z.map CV.av)).flatten := by
    simp [flat, List.flatMap_def, hze]
  have hinit : Vals w (Own E st fp) E.w0.heap.size pl (flat (List.replicate len (asVar ag (z.map CV.av)))) ((Array.range (len * sz)).map (zv.cells[· % zv.cells.size]!)).toList [] := by
    rw [zero_cells _ sz hzs h0, hrep]
    clear hmax hps hrep ho
    induction len with
    | zero => exact .nil
    | succ m ih => simpa [List.replicate_succ] using hzv.append ih
  obtain ⟨cells, h4, h5, h6, h7, h8⟩ := lit_sound hR (sz := sz) (n := len) (ag := ag) ps.toList qs _ _ hc hps hag (by simp) (by intro x hx; rw [List.eq_of_mem_replicate hx, hze]; simpa using hzl)
    (by rw [hrep]; intro x hx; obtain ⟨l, hl, hx⟩ := List.mem_flatten.1 hx; rw [List.eq_of_mem_replicate hl] at hx; exact hz1 x hx) hinit
  have hB := below_alloc' w (.cells cells e)
  have hvx := h5.ext hB
  have hrun : (execOp a.eval o).run E.P w = .ok (.value (.slice (some ⟨w.heap.size, 0, none⟩) len len)) (w.alloc (.cells cells e)) := by
    have hle : ¬ (len * sz > 2 ^ 24) := by omega
    have hfill : Instr.fill (fun i => some (i * sz, sz)) ((Array.range (len * sz)).map (zv.cells[· % zv.cells.size]!)) (ps.map fun (i, x) => (i, a.eval x)).toList = some cells := by simpa using h4
    by_cases hz0 : len * sz = 0
    · have hfill' : ∀ f : Nat → Value, Instr.fill (fun i => some (i * sz, sz)) ((Array.range 0).map f) (ps.map fun (i, x) => (i, a.eval x)).toList = some cells := by
        intro f
        rw [hz0] at hfill
        have e0 : ∀ g : Nat → Value, (Array.range 0).map g = (#[] : Array Value) := fun g => Array.eq_empty_of_size_eq_zero (by simp)
        rw [e0] at hfill ⊢
        exact hfill
      simp only [execOp, ho, Instr.buildSlice, Sem.run_bind, run_underlying (elemIs_eq he), Result.andThen_ok, run_sizeOf' hs, if_neg hle, hz0, if_true, Sem.run_pure, hfill', newRow, newObj, Sem.run]
      rfl
    · simp only [execOp, ho, Instr.buildSlice, Sem.run_bind, run_underlying (elemIs_eq he), Result.andThen_ok, run_sizeOf' hs, if_neg hle, hz0, if_false, hzr, Sem.run_pure, hfill, newRow, newObj, Sem.run]
      rfl
  refine ⟨_, _, pl, fp, hrun, hR.ext hB, ?_⟩
  simp only [rop, St.make, vop, litA]
  generalize hl' : (qs.map fun (i, x) => (i, st.val x)).foldl (fun l p => l.set p.1 p.2) (List.replicate len (asVar ag (z.map CV.av))) = l' at *
  cases l' with
  | nil =>
    simp at h6
    subst h6
    exact .sle rfl (fun _ => rfl) .nil
  | cons x l' =>
    rw [← h6]
    exact .slx (sz := sz) (by simp) (fun h => by have := own_lt hR h; omega) (by rw [alloc_size]; omega) h0 h7 h8 hvx (by simpa using at_new) .nil
end
end Go.Amb

set_option linter.unusedSimpArgs false
set_option linter.unusedVariables false
namespace Go.Amb
open Go Go.RowKit

theorem hdel_eq (h : Nat → Option Blk) (l : List Nat) (q : Nat) : hdel h l q = if q ∈ l then none else h q := by
  induction l with
  | nil => simp [hdel]
  | cons r l ih =>
    simp only [hdel, hupd, ih, List.mem_cons]
    by_cases h1 : q = r <;> simp [h1]

section
variable {E : Env} {st : St} {a : Act} {w w' : World} {pl pl' : Pls} {fp : Nat → List Nat}

/-- The streams stand, no block goes. -/
structure Same (w w' : World) : Prop where
  os : w'.os = w.os
  tape : w'.tape = w.tape
  output : w'.output = w.output
  size : w.heap.size ≤ w'.heap.size
theorem Same.refl (w : World) : Same w w := ⟨rfl, rfl, rfl, Nat.le_refl _⟩
theorem Same.of_below {B : Nat} (h : Below B w w') : Same w w' := ⟨h.os, h.tape, h.output, h.size⟩

theorem RelW.change (hR : RelW E st a w pl fp) (used : List Nat) (r : Nat) (blk : Blk) (f : List Nat) (us' : Nat → Bool) (hs : Same w w')
    (hw : ∀ b, b < w.heap.size → (∀ q ∈ used, b ∉ fp q) → w'.heap[b]? = w.heap[b]?) (hlive : ∀ q ∈ used, (st.heap q).isSome = true) (hr : (st.heap r).isSome = true → r ∈ used)
    (hpl : ∀ q, q ≠ r → pl' q = pl q) (hplr : ∀ x, pl r = some x → pl' r = some x) (hnb : r < E.nb → pl' r = pl r)
    (hus1 : us' r = true) (hus2 : ∀ q, q ≠ r → us' q = st.us q)
    (hf : ∀ b ∈ f, b < w'.heap.size ∧ (w.heap.size ≤ b ∨ ∃ q ∈ used, b ∈ fp q)) (hnd : f.Nodup)
    (hroot : (∀ b, b < w.heap.size → ¬ Own E st fp b → ¬ Own E { st with heap := hupd (hdel st.heap used) r (some blk), us := us' } (fpAdd fp r f) b) →
      RootRel w' (Own E { st with heap := hupd (hdel st.heap used) r (some blk), us := us' } (fpAdd fp r f)) E.w0.heap.size pl' r blk f) :
    RelW E { st with heap := hupd (hdel st.heap used) r (some blk), us := us' } a w' pl' (fpAdd fp r f) ∧
      (∀ b, b < w.heap.size → ¬ Own E st fp b → ¬ Own E { st with heap := hupd (hdel st.heap used) r (some blk), us := us' } (fpAdd fp r f) b ∧ w'.heap[b]? = w.heap[b]?) ∧ (∀ q x, pl q = some x → pl' q = some x) := by
  have hplx : ∀ q x, pl q = some x → pl' q = some x := by
    intro q x hq
    by_cases h : q = r
    · subst h; exact hplr x hq
    · rw [hpl q h]; exact hq
  have hheap : ∀ q, q ≠ r → hupd (hdel st.heap used) r (some blk) q = if q ∈ used then none else st.heap q := by
    intro q hq; simp [hupd, hq, hdel_eq]
  have hlv : ∀ q, q ≠ r → (hupd (hdel st.heap used) r (some blk) q).isSome = true → q ∉ used ∧ (st.heap q).isSome = true := by
    intro q hq h
    rw [hheap q hq] at h
    by_cases hu : q ∈ used
    · simp [hu] at h
    · simp [hu] at h; exact ⟨hu, h⟩
  have hO : ∀ b, b < w.heap.size → ¬ Own E st fp b → ¬ Own E { st with heap := hupd (hdel st.heap used) r (some blk), us := us' } (fpAdd fp r f) b := by
    rintro b hb hn (hx | ⟨q, hq, hbq⟩)
    · exact hn (.inl hx)
    · by_cases hqr : q = r
      · subst hqr
        simp [fpAdd] at hbq
        rcases (hf b hbq).2 with h | ⟨z, hz, hbz⟩
        · omega
        · exact hn (.inr ⟨z, hlive z hz, hbz⟩)
      · simp [fpAdd, hqr] at hbq
        exact hn (.inr ⟨q, (hlv q hqr hq).2, hbq⟩)
  have hfree : ∀ b, ¬ Own E st fp b → ∀ q ∈ used, b ∉ fp q := fun b hn q hq hb => hn (.inr ⟨q, hlive q hq, hb⟩)
  have hrest : ∀ q, q ≠ r → q ∉ used → (st.heap q).isSome = true → ∀ b ∈ fp q, ∀ z ∈ used, b ∉ fp z := by
    intro q hq hu hl b hb z hz
    exact hR.disj q z b hl (hlive z hz) (fun e => hu (e ▸ hz)) hb
  refine ⟨?_, fun b hb hn => ⟨hO b hb hn, hw b hb (hfree b hn)⟩, hplx⟩
  exact
    { size := hR.size, defers := hR.defers
      plx := fun q hq => by
        by_cases h : q = r
        · subst h; rw [hnb hq]; exact hR.plx q hq
        · rw [hpl q h]; exact hR.plx q hq
      unused := fun q hq => by
        by_cases h : q = r
        · subst h; simp only at hq; rw [hus1] at hq; cases hq
        · simp only at hq; rw [hus2 q h] at hq; rw [hpl q h]; exact hR.unused q hq
      used := fun q hq => by
        by_cases h : q = r
        · subst h; exact hus1
        · simp only; rw [hus2 q h]; exact hR.used q (hlv q h hq).2
      usnb := fun q hq => by
        by_cases h : q = r
        · subst h; exact hus1
        · simp only; rw [hus2 q h]; exact hR.usnb q hq
      roots := fun q b hb => by
        by_cases h : q = r
        · subst h
          simp [hupd] at hb
          subst hb
          simpa [fpAdd] using hroot hO
        · have hsome := hlv q h (by simp only at hb; rw [hb]; rfl)
          have hb' : st.heap q = some b := by simp only at hb; rw [hheap q h] at hb; simpa [hsome.1] using hb
          have := (hR.roots q b hb').move (w' := w') (O' := Own E { st with heap := hupd (hdel st.heap used) r (some blk), us := us' } (fpAdd fp r f))
            (fun x hx hl => hx.elim (fun hx => hw x hl (hrest q h hsome.1 hsome.2 x hx)) (fun hx => hw x hl (hfree x hx))) hs.size hO (Nat.le_refl _) hplx
          simpa [fpAdd, h] using this
      nodup := fun q hq => by
        by_cases h : q = r
        · subst h; simpa [fpAdd] using hnd
        · simpa [fpAdd, h] using hR.nodup q (hlv q h hq).2
      own := fun q hq b hb => by
        by_cases h : q = r
        · subst h
          simp [fpAdd] at hb
          obtain ⟨h1, h2⟩ := hf b hb
          have := hR.keeps.size
          rcases h2 with h2 | ⟨z, hz, hbz⟩
          · exact ⟨h1, .inl (by omega), fun hx => by have := hR.xold b hx; omega⟩
          · exact ⟨h1, (hR.own z (hlive z hz) b hbz).2⟩
        · simp [fpAdd, h] at hb
          have := hR.own q (hlv q h hq).2 b hb
          exact ⟨Nat.lt_of_lt_of_le this.1 hs.size, this.2⟩
      disj := fun q q' b hq hq' hne hb hb' => by
        by_cases h1 : q = r
        · subst h1
          have h2 : q' ≠ q := fun e => hne e.symm
          simp [fpAdd] at hb
          simp [fpAdd, h2] at hb'
          obtain ⟨hn, hl⟩ := hlv q' h2 hq'
          rcases (hf b hb).2 with h | ⟨z, hz, hbz⟩
          · have := (hR.own q' hl b hb').1; omega
          · exact hrest q' h2 hn hl b hb' z hz hbz
        · by_cases h2 : q' = r
          · subst h2
            simp [fpAdd] at hb'
            simp [fpAdd, h1] at hb
            obtain ⟨hn, hl⟩ := hlv q h1 hq
            rcases (hf b hb').2 with h | ⟨z, hz, hbz⟩
            · have := (hR.own q hl b hb).1; omega
            · exact hrest q h1 hn hl b hb z hz hbz
          · simp [fpAdd, h1] at hb
            simp [fpAdd, h2] at hb'
            exact hR.disj q q' b (hlv q h1 hq).2 (hlv q' h2 hq').2 hne hb hb'
      xold := hR.xold, gold := hR.gold
      tmps := fun d hd => by
        obtain ⟨u, h1, h2⟩ := hR.tmps d hd
        exact ⟨u, h1, h2.move (fun b hb hl => hw b hl (hfree b (hb.resolve_left (by simp)))) hs.size hO (Nat.le_refl _) _ hplx⟩
      keeps := ⟨hs.os.trans hR.keeps.os, hs.tape.trans hR.keeps.tape, hs.output.trans hR.keeps.output, Nat.le_trans hR.keeps.size hs.size, fun b hb hg => by
        have hlt : b < w.heap.size := Nat.lt_of_lt_of_le hb hR.keeps.size
        rw [hw b hlt (fun q hq hbq => by have := (hR.own q (hlive q hq) b hbq).2.1; rcases this with h | h; omega; exact hg h)]
        exact hR.keeps.block b hb hg⟩ }

/-! ### closing -/
theorem sub_row {O : Nat → Prop} {B : Nat} {xs : List AV} {sz b p : Nat} {cs : List Value} {f : List Nat} (hu : ∀ x ∈ xs, (cellsOf x).length = sz) (hc : Vals w O B pl (flat xs) cs f) (ha : At w b p cs) (i n : Nat) (h : i + n ≤ xs.length) :
    ∃ ds g, Vals w O B pl (flat ((xs.drop i).take n)) ds g ∧ At w b (p + i * sz) ds ∧ g.Sublist f := by
  have e : xs = xs.take i ++ ((xs.drop i).take n ++ (xs.drop i).drop n) := by rw [List.take_append_drop, List.take_append_drop]
  rw [e, flat_append, flat_append] at hc
  obtain ⟨c1, c2, f1, f2, rfl, rfl, v1, v2⟩ := hc.unappend
  obtain ⟨c3, c4, f3, f4, rfl, rfl, v3, v4⟩ := v2.unappend
  have hl1 : c1.length = i * sz := by
    rw [v1.length, flat_length (fun x hx => hu x (List.mem_of_mem_take hx)), List.length_take, Nat.min_eq_left (by omega)]
  refine ⟨c3, f3, v3, by rw [← hl1]; exact ha.drop.take, ?_⟩
  exact (List.sublist_append_left f3 f4).trans (List.sublist_append_right f1 _)

theorem RowAt.eq {b n m : Nat} (h : RowAt w b n) (e : n = m) : RowAt w b m := e ▸ h

theorem close1 (hR : RelW E st a w pl fp) {c : AV} {u : Value} (hv : Vals w (Own E st fp) E.w0.heap.size pl [c] [u] []) (hc : closeOk st.heap c) :
    ∃ f, Vals w (Own E st fp) E.w0.heap.size noPl [closeV st.heap c] [u] f ∧ f.Nodup ∧ ∀ b ∈ f, ∃ r ∈ usedV c, (st.heap r).isSome = true ∧ b ∈ fp r := by
  cases c <;> first | exact hc.elim | skip
  · cases hv with | int t => exact ⟨[], .int .nil, by simp, by simp⟩
  · cases hv with | bool t => exact ⟨[], .bool .nil, by simp, by simp⟩
  · cases hv with | str t => exact ⟨[], .str .nil, by simp, by simp⟩
  · cases hv with | nilp t => exact ⟨[], .nilp .nil, by simp, by simp⟩
  · rename_i K xs
    cases K with
    | own sz => exact hc.elim
    | fro =>
      refine ⟨[], ?_, by simp, by simp⟩
      show Vals w _ _ noPl [.sl .fro xs] [u] []
      cases hv with
      | sle hk hc0 t => exact .sle hk hc0 .nil
      | slf hk hx hb hl hz hu h1 hc0 ha hn t => exact .slf hk hx hb hl hz hu h1 hc0 ha hn .nil
    | fre =>
      refine ⟨[], ?_, by simp, by simp⟩
      show Vals w _ _ noPl [.sl .fre xs] [u] []
      cases hv with
      | sle hk hc0 t => exact .sle hk hc0 .nil
      | slf hk hx hb hl hz hu h1 hc0 ha hn t => exact .slf hk hx hb hl hz hu h1 hc0 ha hn .nil
    | ext =>
      have hx0 : xs = [] := hc
      subst hx0
      refine ⟨[], ?_, by simp, by simp⟩
      show Vals w _ _ noPl [.sl .fro []] [u] []
      cases hv with
      | sle hk hc t => exact .sle rfl (by simp) .nil
      | slf hk hx hb hl hz hu h1 hc ha hn t => exact absurd rfl hx
      | slx hx hb hl hz hu h1 hc ha t => exact absurd rfl hx
  · rename_i r off len
    simp only [closeOk] at hc
    cases hb : st.heap r with
    | none => rw [hb] at hc; exact hc.elim
    | some blk =>
      rw [hb] at hc
      obtain ⟨hbox, hle⟩ := hc
      simp only [closeV, hb]
      have hlive : (st.heap r).isSome = true := by rw [hb]; rfl
      obtain ⟨hz, ⟨j, h, he, hfe⟩ | ⟨b, j, cap, cs, fp1, h, hr, hl, hu, ho, hn, hcv, ha, hfe⟩⟩ := (hR.roots r blk hb).inv
      · cases hv with
        | hdr h' hn hA t => rw [h] at h'; cases h'
        | hdre h' t =>
          refine ⟨[], ?_, by simp, by simp⟩
          simp only [List.take_zero]
          exact .owe .nil
      · cases hv with
        | hdre h' t => rw [h] at h'; cases h'
        | @hdr _ _ _ _ b' j' sz' cap' A _ _ _ h' hn' hA t =>
          rw [h] at h'
          injection h' with h'
          injection h' with e1 e2 e3 e4
          injection e1 with e1
          subst e1 e2 e3 e4
          rw [hbox] at hcv
          simp only [Bool.false_eq_true, if_false] at hcv
          obtain ⟨ds, g, h1, h2, h3⟩ := sub_row hu hcv ha off len hle
          have hlen : ((blk.es.drop off).take len).length = len := by rw [List.length_take, List.length_drop]; omega
          have hnd := hR.nodup r hlive
          rw [hfe] at hnd
          have hu' : ∀ x ∈ (blk.es.drop off).take len, (cellsOf x).length = blk.sz := fun x hx => hu x (List.mem_of_mem_drop (List.mem_of_mem_take hx))
          have ho' : ∀ x ∈ flat ((blk.es.drop off).take len), x.one = true := by
            intro x hx
            refine ho x ?_
            have e : blk.es = blk.es.take off ++ ((blk.es.drop off).take len ++ (blk.es.drop off).drop len) := by rw [List.take_append_drop, List.take_append_drop]
            rw [e, flat_append, flat_append]
            simp [hx]
          by_cases hcap : cap = off
          · have hl0 : len = 0 := by omega
            subst hl0
            refine ⟨[], ?_, by simp, by simp⟩
            simp only [List.take_zero, hcap, Nat.sub_self]
            exact .owe .nil
          · have hA' : A = some ⟨b, (j + off) * blk.sz, none⟩ := hA.resolve_right hcap
            subst hA'
            refine ⟨b :: (g ++ []), ?_, ?_, ?_⟩
            · have hh := Vals.ow (w := w) (O := Own E st fp) (B := E.w0.heap.size) (pl := noPl) (sz := blk.sz) (xs := (blk.es.drop off).take len) (b := b) (j := j + off) (cap := cap - off) (fp1 := g) (vs := []) (us := []) (fp := [])
                (hr.eq (by congr 1; omega)) hl hz hu' ho' (by rw [hlen]; omega) h1 (by rw [Nat.add_mul]; exact h2) .nil
              rw [hlen] at hh
              exact hh
            · rw [List.append_nil]
              exact hnd.sublist (h3.cons_cons b)
            · intro x hx
              refine ⟨r, by simp [usedV], hlive, ?_⟩
              rw [hfe]
              rw [List.append_nil] at hx
              exact (h3.cons_cons b).subset hx
  · cases hv with | nilf t => exact ⟨[], .nilf .nil, by simp, by simp⟩
  · rename_i f cap
    cases cap with
    | nil =>
      cases hv with
      | fn hc t => cases hc; exact ⟨[], .fn (us1 := []) .nil .nil, by simp, by simp⟩
    | cons _ _ => exact hc.elim
  · cases hv with | nili t => exact ⟨[], .nili .nil, by simp, by simp⟩

theorem closeL (hR : RelW E st a w pl fp) : ∀ (cs : List AV) (us : List Value), Vals w (Own E st fp) E.w0.heap.size pl cs us [] → (∀ c ∈ cs, closeOk st.heap c) → (cs.flatMap usedV).Nodup →
    ∃ f, Vals w (Own E st fp) E.w0.heap.size noPl (cs.map (closeV st.heap)) us f ∧ f.Nodup ∧ ∀ b ∈ f, ∃ r ∈ cs.flatMap usedV, (st.heap r).isSome = true ∧ b ∈ fp r
  | [], us, hv, _, _ => by cases hv; exact ⟨[], .nil, by simp, by simp⟩
  | c :: cs, us, hv, hc, hn => by
    obtain ⟨u, us', rfl, h1, h2⟩ := hv.uncons0
    simp only [List.flatMap_cons] at hn
    obtain ⟨hn1, hn2, hn3⟩ := List.nodup_append.1 hn
    obtain ⟨f1, v1, d1, m1⟩ := close1 hR h1 (hc c (by simp))
    obtain ⟨f2, v2, d2, m2⟩ := closeL hR cs us' h2 (fun x hx => hc x (by simp [hx])) hn2
    refine ⟨f1 ++ f2, by simpa using v1.cons v2, ?_, ?_⟩
    · rw [List.nodup_append]
      refine ⟨d1, d2, fun b hb b' hb' e => ?_⟩
      subst e
      obtain ⟨r, hr, hl, hbr⟩ := m1 b hb
      obtain ⟨r', hr', hl', hbr'⟩ := m2 b hb'
      exact hR.disj r r' b hl hl' (hn3 r hr r' hr') hbr hbr'
    · intro b hb
      rcases List.mem_append.1 hb with hb | hb
      · obtain ⟨r, hr, h⟩ := m1 b hb
        exact ⟨r, by simp only [List.flatMap_cons]; exact List.mem_append_left _ hr, h⟩
      · obtain ⟨r, hr, h⟩ := m2 b hb
        exact ⟨r, by simp only [List.flatMap_cons]; exact List.mem_append_right _ hr, h⟩
end
end Go.Amb

set_option linter.unusedSimpArgs false
set_option linter.unusedVariables false
namespace Go.Amb
open Go Go.RowKit

theorem closeE_cells {h : Nat → Option Blk} {v : AV} (h1 : v.one = true ∨ ∃ cs, v = .agg cs) : cellsOf (closeE h v) = (cellsOf v).map (closeV h) := by
  rcases h1 with h1 | ⟨cs, rfl⟩
  · have e : cellsOf v = [v] := by cases v <;> simp_all [cellsOf, AV.one]
    have e2 : closeE h v = closeV h v := by cases v <;> simp_all [closeE, AV.one]
    rw [e, e2]
    have : cellsOf (closeV h v) = [closeV h v] := by
      cases v with
      | hdr r off len => simp only [closeV]; cases h r <;> rfl
      | sl k xs => cases k <;> cases xs <;> rfl
      | _ => first | rfl | simp [AV.one] at h1
    simpa using this
  · simp [cellsOf, closeE]
theorem closeV_one {h : Nat → Option Blk} {v : AV} (hc : closeOk h v) : (closeV h v).one = true := by
  cases v with
  | hdr r off len => simp only [closeOk] at hc; simp only [closeV]; cases hb : h r with | none => rw [hb] at hc; exact hc.elim | some b => rfl
  | sl k xs => cases k <;> cases xs <;> first | rfl | exact hc.elim
  | fn f cap => rfl
  | _ => first | rfl | exact hc.elim

section
variable {E : Env} {st : St} {a : Act} {w w' : World} {pl pl' : Pls} {fp : Nat → List Nat}

/-- Some elements, closed: what append reads. m elements of sz cells. -/
structure NewsOk (st : St) (w : World) (O : Nat → Prop) (B : Nat) (fp : Nat → List Nat) (ys : List AV) (used : List Nat) (A : Option Addr) (sz : Nat) : Prop where
  ex : ∃ cs f, Vals w O B noPl (flat ys) cs f ∧ f.Nodup ∧ (∀ b ∈ f, ∃ r ∈ used, (st.heap r).isSome = true ∧ b ∈ fp r) ∧ (0 < ys.length → ∃ b p, A = some ⟨b, p, none⟩ ∧ At w b p cs)
  uni : ∀ x ∈ ys, (cellsOf x).length = sz
  one : ∀ x ∈ flat ys, x.one = true

theorem elems_shape {O : Nat → Prop} {B : Nat} {xs : List AV} (h1 : ∀ x ∈ flat xs, x.one = true) : ∀ x ∈ xs, x.one = true ∨ ∃ cs, x = .agg cs := by
  intro x hx
  exact oneOrAgg (fun c hc => h1 c (List.mem_flatMap.2 ⟨x, hx, hc⟩))

theorem ext_news (hR : RelW E st a w pl fp) {xs : List AV} {u : Value} {sz : Nat} (hv : Vals w (Own E st fp) E.w0.heap.size pl [.sl .ext xs] [u] []) (hok : ∀ x ∈ xs, (cellsOf x).length = sz ∧ ∀ c ∈ cellsOf x, closeOk st.heap c) (hn : (usedE xs).Nodup) :
    ∃ A, u = .slice A xs.length xs.length ∧ NewsOk st w (Own E st fp) E.w0.heap.size fp (xs.map (closeE st.heap)) (usedE xs) A sz := by
  cases hv with
  | sle hk hc t =>
    have := hc rfl
    subst this
    exact ⟨_, rfl, ⟨⟨[], [], .nil, by simp, by simp, by simp⟩, by simp, by simp [flat]⟩⟩
  | slf hk hx hb hl hz hu h1 hc ha hn t => rcases hk with h | h <;> cases h
  | @slx _ _ b p sz' cs _ _ _ hx hb hl hz hu h1 hc ha t =>
    obtain ⟨f, v, nd, m⟩ := closeL hR _ _ hc (fun c hc => by obtain ⟨x, hx, hcx⟩ := List.mem_flatMap.1 hc; exact (hok x hx).2 c hcx) hn
    have hsh := elems_shape (O := Own E st fp) (B := 0) h1
    have hfl : flat (xs.map (closeE st.heap)) = (flat xs).map (closeV st.heap) := by
      clear hx hu h1 hc hn v hok m
      induction xs with
      | nil => rfl
      | cons x xs ih =>
        rw [List.map_cons, flat_cons, flat_cons, List.map_append, ih (fun y hy => hsh y (by simp [hy])), closeE_cells (hsh x (by simp))]
    refine ⟨_, rfl, ⟨⟨cs, f, by rw [hfl]; exact v, nd, m, fun _ => ⟨b, p, rfl, ha⟩⟩, ?_, ?_⟩⟩
    · intro y hy
      obtain ⟨x, hx, rfl⟩ := List.mem_map.1 hy
      rw [closeE_cells (hsh x hx), List.length_map]
      exact (hok x hx).1
    · rw [hfl]
      intro y hy
      obtain ⟨c, hc, rfl⟩ := List.mem_map.1 hy
      obtain ⟨x, hx, hcx⟩ := List.mem_flatMap.1 hc
      exact closeV_one ((hok x hx).2 c hcx)

theorem news_sound (hR : RelW E st a w pl fp) {X : AV} {u : Value} {sz : Nat} (hv : Vals w (Own E st fp) E.w0.heap.size pl [X] [u] []) (hok : st.newsOk sz X) (hn : (St.newsUsed X).Nodup) (hstr : ∀ s, X ≠ .str s) :
    ∃ A c, u = .slice A (st.news X).length c ∧ NewsOk st w (Own E st fp) E.w0.heap.size fp (st.news X) (St.newsUsed X) A sz := by
  cases X <;> first | exact hok.elim | exact absurd rfl (hstr _) | skip
  · rename_i K xs
    cases K with
    | own sz => exact hok.elim
    | ext =>
      obtain ⟨A, h1, h2⟩ := ext_news hR hv hok hn
      exact ⟨A, xs.length, by simpa [St.news] using h1, h2⟩
    | fro =>
      cases hv with
      | sle hk hc t => exact ⟨_, _, rfl, ⟨⟨[], [], .nil, by simp, by simp, by simp [St.news]⟩, by simp [St.news], by simp [St.news, flat]⟩⟩
      | slf hk hx hb hl hz hu h1 hc ha hn t => exact ⟨_, _, rfl, ⟨⟨_, [], hc, by simp, by simp, fun _ => ⟨_, _, rfl, ha⟩⟩, hok, h1⟩⟩
    | fre =>
      cases hv with
      | sle hk hc t => exact ⟨_, _, rfl, ⟨⟨[], [], .nil, by simp, by simp, by simp [St.news]⟩, by simp [St.news], by simp [St.news, flat]⟩⟩
      | slf hk hx hb hl hz hu h1 hc ha hn t => exact ⟨_, _, rfl, ⟨⟨_, [], hc, by simp, by simp, fun _ => ⟨_, _, rfl, ha⟩⟩, hok, h1⟩⟩
  · rename_i r off n
    obtain ⟨h1, h2, h3, h4, h5⟩ := hok
    obtain ⟨blk, hb⟩ := Option.isSome_iff_exists.1 h1
    have hnews : st.news (.hdr r off n) = (blk.es.drop off).take n := by simp [St.news, blk_eq hb]
    rw [blk_eq hb] at h2 h3 h4 h5
    have hlen : ((blk.es.drop off).take n).length = n := by rw [List.length_take, List.length_drop]; omega
    rw [hnews]
    obtain ⟨hz, ⟨j, h, he, -⟩ | ⟨b, j, cap, cs, fp1, h, hr, hl, hu, ho, hn', hc, ha, -⟩⟩ := (hR.roots r blk hb).inv
    · cases hv with
      | hdr h' hn hA t => rw [h] at h'; cases h'
      | hdre h' t => exact ⟨_, 0, by rw [hlen], ⟨⟨[], [], by simpa [flat] using Vals.nil, by simp, by simp, by simp⟩, by simp, by simp [flat]⟩⟩
    · cases hv with
      | hdre h' t => rw [h] at h'; cases h'
      | @hdr _ _ _ _ b' j' sz' cap' A _ _ _ h' hn'' hA t =>
        rw [h] at h'
        injection h' with h'
        injection h' with e1 e2 e3 e4
        injection e1 with e1
        subst e1 e2 e3 e4
        rw [h2] at hc
        simp only [Bool.false_eq_true, if_false] at hc
        obtain ⟨ds, g, v1, v2, v3⟩ := sub_row hu hc ha off n h3
        have hg : g = [] := shr_fp v1 h5
        subst hg
        refine ⟨_, _, by rw [hlen], ⟨⟨ds, [], v1, by simp, by simp, fun hp => ?_⟩, ?_, fun x hx => shr_one (h5 x hx)⟩⟩
        · rw [hlen] at hp
          refine ⟨b, (j + off) * blk.sz, hA.resolve_right (by omega), ?_⟩
          rw [Nat.add_mul]; exact v2
        · intro x hx
          rw [hu x (List.mem_of_mem_drop (List.mem_of_mem_take hx)), h4]
end
end Go.Amb

set_option linter.unusedSimpArgs false
set_option linter.unusedVariables false
namespace Go.Amb
open Go Go.RowKit

section
variable {P : Program}
theorem run_firstCells {w : World} {size n : Nat} {A : Option Addr} {len cap : Nat} {cs : List Value} (hl : cs.length = n * size) (h : 0 < n → ∃ b p, A = some ⟨b, p, none⟩ ∧ At w b p cs) :
    (Builtin.firstCells size n (.slice A len cap)).run P w = .ok cs.toArray w := by
  rcases Nat.eq_zero_or_pos n with h0 | h0
  · subst h0
    have : cs = [] := List.length_eq_zero_iff.1 (by simpa using hl)
    subst this
    cases A with
    | none => simp [Builtin.firstCells]
    | some b => exact run_firstCells_some w size 0 b len cap [] (by simp) (by simp)
  · obtain ⟨b, p, rfl, ha⟩ := h h0
    exact run_firstCells_some w size n _ len cap cs hl (fun j v hv => by rw [Addr.add_mid]; exact ha j v hv)

theorem run_app_grow {w : World} {t u ty e : TypeId} {i : TypeInfo} {z : Value} (ht : P.underlying t = some (.slice e)) (hu : (∃ e', P.underlying u = some (.slice e')) ∨ P.underlying u = some .string) (hi : P.info? e = some i) (hz : i.zero = some z)
    {A A2 : Option Addr} {n c m c2 : Nat} {olds news : List Value} (h1 : ∀ w' : World, w'.heap = w.heap → (Builtin.firstCells i.size n (.slice A n c)).run P w' = .ok olds.toArray w') (h2 : ∀ w' : World, w'.heap = w.heap → (Builtin.firstCells i.size m (.slice A2 m c2)).run P w' = .ok news.toArray w')
    (hg : c < n + m) (h63 : n + m ≤ 9223372036854775807) (hfit : (n + m) * i.bytes ≤ 140737488355328) :
    (Builtin.append_ #[t, u] ty #[.slice A n c, .slice A2 m c2]).run P w =
      .ok (.slice (some ⟨w.heap.size, 0, none⟩) (n + m) (grownCap w (n + m) c e)) (w.drew.alloc (.cells (olds.toArray ++ news.toArray ++ Builtin.zeroCells z.cells (grownCap w (n + m) c e - (n + m))) e)) := by
  have hn : ¬ (n + m ≤ c) := by omega
  have h63' : ¬ (9223372036854775807 < ((n : Int) + (m : Int))) := by omega
  have h48 := growslice_fits hg hfit
  have h48' : ¬ (281474976710656 < Builtin.nextslicecap (n + m) c * i.bytes) := by omega
  have hf := h2 w.drew rfl
  have hfo := h1 w.drew rfl
  rcases hu with ⟨e', hu⟩ | hu
  all_goals
    simp [Builtin.append_, run_underlying ht, run_underlying hu, sizeOf, typeInfo, zeroValue, hi, hz, Builtin.lenOf, hn, h63', h48', Question.forced, hf, hfo, newRow, grownCap]
    congr 2
    apply Array.ext'
    simp [List.append_assoc]

theorem run_app_room {w : World} {t u ty e : TypeId} {i : TypeInfo} (ht : P.underlying t = some (.slice e)) (hu : (∃ e', P.underlying u = some (.slice e')) ∨ P.underlying u = some .string) (hi : P.info? e = some i)
    {b off : Nat} {A2 : Option Addr} {n c m c2 : Nat} {news : List Value} (h2 : (Builtin.firstCells i.size m (.slice A2 m c2)).run P w = .ok news.toArray w) (h1 : ∀ u ∈ news, u.oneCell' = true)
    (hroom : n + m ≤ c) (hth : ∀ j, j < news.length → (w.cell? ⟨b, off + n * i.size + j, none⟩).isSome = true) (hf : ∀ j, j < news.length → w.frozen? ⟨b, off + n * i.size + j, none⟩ = false) :
    (Builtin.append_ #[t, u] ty #[.slice (some ⟨b, off, none⟩) n c, .slice A2 m c2]).run P w = .ok (.slice (some ⟨b, off, none⟩) (n + m) c) (w.setCells b (off + n * i.size) news) := by
  have hst := run_storeCells_cells (P := P) b (off + n * i.size) news 0 w (by simpa using hth) (by simpa using hf) h1
  simp only [Nat.add_zero] at hst
  rcases hu with ⟨e', hu⟩ | hu <;> simp [Builtin.append_, run_underlying ht, run_underlying hu, sizeOf, typeInfo, hi, Builtin.lenOf, hroom, h2, Addr.add_mid, hst]

theorem run_app_none {w : World} {t u ty e : TypeId} {i : TypeInfo} (ht : P.underlying t = some (.slice e)) (hu : (∃ e', P.underlying u = some (.slice e')) ∨ P.underlying u = some .string) (hi : P.info? e = some i)
    {A A2 : Option Addr} {n c c2 : Nat} (hroom : n ≤ c) : (Builtin.append_ #[t, u] ty #[.slice A n c, .slice A2 0 c2]).run P w = .ok (.slice A n c) w := by
  have h2 : (Builtin.firstCells i.size 0 (.slice A2 0 c2)).run P w = .ok #[] w := run_firstCells (cs := []) (by simp) (by simp)
  cases A with
  | none => rcases hu with ⟨e', hu⟩ | hu <;> simp [Builtin.append_, run_underlying ht, run_underlying hu, sizeOf, typeInfo, hi, Builtin.lenOf, hroom, h2]
  | some ad => rcases hu with ⟨e', hu⟩ | hu <;> simp [Builtin.append_, run_underlying ht, run_underlying hu, sizeOf, typeInfo, hi, Builtin.lenOf, hroom, h2, storeCells]
/-- A string's bytes, as cells. -/
def strCells (s : ByteArray) : List Value := s.data.toList.map fun b => .int .u8 b.toNat
theorem strCells_len (s : ByteArray) : (strCells s).length = s.size := by
  obtain ⟨⟨l⟩⟩ := s
  simp [strCells]
  rfl
theorem run_firstCells_str {w : World} {size : Nat} (s : ByteArray) : (Builtin.firstCells size s.size (.string s)).run P w = .ok (strCells s).toArray w := by
  have h : s.extract 0 s.size = s := by
    obtain ⟨⟨l⟩⟩ := s
    apply ByteArray.ext
    simp [ByteArray.data_extract]
  simp only [Builtin.firstCells, h, Sem.run_pure]
  congr 1
  apply Array.ext'
  simp [strCells]
theorem run_apps_grow {w : World} {t u ty e : TypeId} {i : TypeInfo} {z : Value} (ht : P.underlying t = some (.slice e)) (hu : (∃ e', P.underlying u = some (.slice e')) ∨ P.underlying u = some .string) (hi : P.info? e = some i) (hz : i.zero = some z)
    {A : Option Addr} {n c : Nat} {olds : List Value} {s : ByteArray} (h1 : ∀ w' : World, w'.heap = w.heap → (Builtin.firstCells i.size n (.slice A n c)).run P w' = .ok olds.toArray w')
    (hg : c < n + s.size) (h63 : n + s.size ≤ 9223372036854775807) (hfit : (n + s.size) * i.bytes ≤ 140737488355328) :
    (Builtin.append_ #[t, u] ty #[.slice A n c, .string s]).run P w =
      .ok (.slice (some ⟨w.heap.size, 0, none⟩) (n + s.size) (grownCap w (n + s.size) c e)) (w.drew.alloc (.cells (olds.toArray ++ (strCells s).toArray ++ Builtin.zeroCells z.cells (grownCap w (n + s.size) c e - (n + s.size))) e)) := by
  have hn : ¬ (n + s.size ≤ c) := by omega
  have h63' : ¬ (9223372036854775807 < ((n : Int) + (s.size : Int))) := by omega
  have h48 := growslice_fits hg hfit
  have h48' : ¬ (281474976710656 < Builtin.nextslicecap (n + s.size) c * i.bytes) := by omega
  have hf := run_firstCells_str (P := P) (w := w.drew) (size := i.size) s
  have hfo := h1 w.drew rfl
  rcases hu with ⟨e', hu⟩ | hu
  all_goals
    simp [Builtin.append_, run_underlying ht, run_underlying hu, sizeOf, typeInfo, zeroValue, hi, hz, Builtin.lenOf, hn, h63', h48', Question.forced, hf, hfo, newRow, grownCap]
    congr 2
    apply Array.ext'
    simp [List.append_assoc]
theorem run_apps_room {w : World} {t u ty e : TypeId} {i : TypeInfo} (ht : P.underlying t = some (.slice e)) (hu : (∃ e', P.underlying u = some (.slice e')) ∨ P.underlying u = some .string) (hi : P.info? e = some i)
    {b off : Nat} {n c : Nat} {s : ByteArray} (hroom : n + s.size ≤ c) (hth : ∀ j, j < (strCells s).length → (w.cell? ⟨b, off + n * i.size + j, none⟩).isSome = true) (hf : ∀ j, j < (strCells s).length → w.frozen? ⟨b, off + n * i.size + j, none⟩ = false) :
    (Builtin.append_ #[t, u] ty #[.slice (some ⟨b, off, none⟩) n c, .string s]).run P w = .ok (.slice (some ⟨b, off, none⟩) (n + s.size) c) (w.setCells b (off + n * i.size) (strCells s)) := by
  have hst := run_storeCells_cells (P := P) b (off + n * i.size) (strCells s) 0 w (by simpa using hth) (by simpa using hf) (by intro x hx; obtain ⟨y, _, rfl⟩ := List.mem_map.1 hx; rfl)
  simp only [Nat.add_zero] at hst
  have h2 := run_firstCells_str (P := P) (w := w) (size := i.size) s
  rcases hu with ⟨e', hu⟩ | hu <;> simp [Builtin.append_, run_underlying ht, run_underlying hu, sizeOf, typeInfo, hi, Builtin.lenOf, hroom, h2, Addr.add_mid, hst]
theorem run_apps_none {w : World} {t u ty e : TypeId} {i : TypeInfo} (ht : P.underlying t = some (.slice e)) (hu : (∃ e', P.underlying u = some (.slice e')) ∨ P.underlying u = some .string) (hi : P.info? e = some i)
    {A : Option Addr} {n c : Nat} {s : ByteArray} (hs : s.size = 0) (hroom : n ≤ c) : (Builtin.append_ #[t, u] ty #[.slice A n c, .string s]).run P w = .ok (.slice A n c) w := by
  have h2 := run_firstCells_str (P := P) (w := w) (size := i.size) s
  have h0 : strCells s = [] := List.length_eq_zero_iff.1 (by rw [strCells_len]; exact hs)
  rw [h0, hs] at h2
  cases A with
  | none => rcases hu with ⟨e', hu⟩ | hu <;> simp [Builtin.append_, run_underlying ht, run_underlying hu, sizeOf, typeInfo, hi, Builtin.lenOf, hs, hroom, h2]
  | some ad => rcases hu with ⟨e', hu⟩ | hu <;> simp [Builtin.append_, run_underlying ht, run_underlying hu, sizeOf, typeInfo, hi, Builtin.lenOf, hs, hroom, h2, storeCells]
end

theorem At.setCells {w : World} {b p : Nat} {cs : List Value} (h : ∀ j, j < cs.length → (w.cell? ⟨b, p + j, none⟩).isSome = true) : At (w.setCells b p cs) b p cs := by
  intro k v hk
  have hlt : k < cs.length := (List.getElem?_eq_some_iff.1 hk).1
  rw [World.cell?_setCells_in b cs p w h k hlt]
  rw [List.getElem?_eq_getElem hlt] at hk
  exact hk
theorem At.setCells_off {w : World} {b p q : Nat} {cs ds : List Value} (h : At w b q ds) (hd : q + ds.length ≤ p ∨ p + cs.length ≤ q) : At (w.setCells b p cs) b q ds := by
  intro k v hk
  have hlt : k < ds.length := (List.getElem?_eq_some_iff.1 hk).1
  rw [World.cell?_setCells_out b cs p w]
  · exact h k v hk
  · intro _ _
    simp only
    omega
theorem heap_setCells_other {b x : Nat} (hx : x ≠ b) : ∀ (cs : List Value) (p : Nat) (w : World), (w.setCells b p cs).heap[x]? = w.heap[x]?
  | [], _, _ => rfl
  | c :: cs, p, w => by
    rw [World.setCells, heap_setCells_other hx cs (p + 1)]
    exact heap_setCell_other w _ x c hx
theorem rowAt_setCell {w : World} {b n : Nat} (h : RowAt w b n) (o : Nat) (v : Value) (hv1 : v.oneCell' = true) : RowAt (w.setCell ⟨b, o, none⟩ v) b n := by
  obtain ⟨cells, ty, fr, h1, h2, h3⟩ := h
  have hlt : b < w.heap.size := (Array.getElem?_eq_some_iff.1 h1).1
  have hv : w.heap[b] = .cells cells ty fr := (Array.getElem?_eq_some_iff.1 h1).2
  refine ⟨cells.setIfInBounds o v, ty, fr, ?_, by simpa using h2, h3.1, fun x hx => ?_⟩
  case' refine_2 =>
    rw [Array.toList_setIfInBounds] at hx
    rcases List.mem_or_eq_of_mem_set hx with hx | rfl
    · exact h3.2 x hx
    · exact hv1
  unfold World.setCell
  rw [Array.getElem?_eq_getElem (by simpa using hlt), Array.getElem_modify]
  simp [hv]
theorem rowAt_setCells {b n : Nat} : ∀ (cs : List Value) (p : Nat) (w : World), (∀ v ∈ cs, v.oneCell' = true) → RowAt w b n → RowAt (w.setCells b p cs) b n
  | [], _, _, _, h => h
  | c :: cs, p, w, h1, h => rowAt_setCells cs (p + 1) _ (fun v hv => h1 v (by simp [hv])) (rowAt_setCell h p c (h1 c (by simp)))
theorem size_setCells {b : Nat} : ∀ (cs : List Value) (p : Nat) (w : World), (w.setCells b p cs).heap.size = w.heap.size
  | [], _, _ => rfl
  | c :: cs, p, w => by rw [World.setCells, size_setCells cs]; simp [World.setCell]
theorem same_setCells {b : Nat} : ∀ (cs : List Value) (p : Nat) (w : World), (w.setCells b p cs).os = w.os ∧ (w.setCells b p cs).tape = w.tape ∧ (w.setCells b p cs).output = w.output
  | [], _, _ => ⟨rfl, rfl, rfl⟩
  | c :: cs, p, w => by rw [World.setCells]; exact same_setCells cs (p + 1) _
theorem row_cell {w : World} {b n : Nat} (h : RowAt w b n) (o : Nat) (ho : o < n) : (w.cell? ⟨b, o, none⟩).isSome = true ∧ w.frozen? ⟨b, o, none⟩ = false := by
  obtain ⟨cells, ty, fr, h1, h2, h3⟩ := h
  refine ⟨?_, ?_⟩
  · simp [World.cell?, h1, h2, ho]
  · simp only [World.frozen?, h1]
    have : ¬ (fr.1 ≤ o ∧ o < fr.2) := by have := h3.1; omega
    simpa using this
end Go.Amb
