/-
  NARROWER THAN 'FOR EVERY INPUT', by the rows' own cells (each row's printed sentence says how): PatchVersion: loops · PatchRecord: loops · PatchStays: loops · PatchOf: loops · PatchReplays: loops.
  DERIVED. THE GIVEN ROWS OF THIS SEAT. 5 by the template 'for every input the law returns true; each argument reads behind the call as it read before'; 0 by the template 'total and deterministic' (their statements: YtlnhmlffhjmmiaaTotals.lean).
  GIVEN WITH THE SEED: the statements are not yours to turn. If you find one false, say at which input.
  Laid BY PROGRAM, IN A SANDBOX (cutbox-rows.mjs): the forced cells as the released guide's own fill.sh prints them over the translation 3d2be13852a6b928… (all of the seat's roots in one cut). By AI agents, Wed Nov 11 2026. No macro, syntax, notation, axiom, sorry.
-/
import Derived.Test.YtlnhmlffhjmmiaaChecked
import GoSem.Claim
import GoSem.ClaimJoined
import GoSem.ClaimMapViews
import Derived.JoinedTies
import Derived.KernelRfl
namespace Go.Proofs.Ytlnhmlffhjmmiaa
/- THE CELL 'sum', in the pinned program and in every row, IS THE sha256 OF THE DUMP (.gsa) THAT YtlnhmlffhjmmiaaProg.lean LOADS. Nothing in Lean hashes anything: it is a label: what it is worth is what the hold of that sum in a sandbox is worth. -/
noncomputable def Try.pinned : Pinned := { name := "ytlnhmlffhjmmiaa", sum := "3d2be13852a6b92844ad72dbb887f8277dd0af7eddebff6b77b4b66fb7dfbb52", checked := Try.checked }
namespace Rows
def none {H : Type} : Left H := { results := [], args := [] }

/-- 'workflowlaw19.PatchVersion': WHATEVER THE INPUT: true; the input reads as it did. -/
def patchVersionSpec : ChangeSpec := { name := "patchVersion", fn := fun _ => fun
  | [d1, d2, d3, d4, d5] => { results := [.lit (.bool true)], args := [d1, d2, d3, d4, d5] }
  | _ => none }
def patchVersionRow : OpenClaim := { program := "ytlnhmlffhjmmiaa", sum := "3d2be13852a6b92844ad72dbb887f8277dd0af7eddebff6b77b4b66fb7dfbb52", func := "workflow/workflowlaw19.PatchVersion", spec := "patchVersion", unfollowed := true, recurses := true, loops := true, apart := false }
def PatchVersionSaid : Prop := patchVersionRow.holds Try.pinned (OpenSpec.ofChange patchVersionSpec)

/-- ITS FALSE NEIGHBOUR: 'it returns false'. Refute it at one input. -/
def patchVersionWrong : ChangeSpec := { name := "patchVersion", fn := fun _ => fun
  | [d1, d2, d3, d4, d5] => { results := [.lit (.bool false)], args := [d1, d2, d3, d4, d5] }
  | _ => none }
def PatchVersionWrongFalsely : Prop := patchVersionRow.holds Try.pinned (OpenSpec.ofChange patchVersionWrong)

/-- 'workflowlaw19.PatchRecord': WHATEVER THE INPUT: true; the input reads as it did. -/
def patchRecordSpec : ChangeSpec := { name := "patchRecord", fn := fun _ => fun
  | [d1, d2, d3, d4] => { results := [.lit (.bool true)], args := [d1, d2, d3, d4] }
  | _ => none }
def patchRecordRow : OpenClaim := { program := "ytlnhmlffhjmmiaa", sum := "3d2be13852a6b92844ad72dbb887f8277dd0af7eddebff6b77b4b66fb7dfbb52", func := "workflow/workflowlaw19.PatchRecord", spec := "patchRecord", unfollowed := true, recurses := true, loops := true, apart := false }
def PatchRecordSaid : Prop := patchRecordRow.holds Try.pinned (OpenSpec.ofChange patchRecordSpec)

/-- ITS FALSE NEIGHBOUR: 'it returns false'. Refute it at one input. -/
def patchRecordWrong : ChangeSpec := { name := "patchRecord", fn := fun _ => fun
  | [d1, d2, d3, d4] => { results := [.lit (.bool false)], args := [d1, d2, d3, d4] }
  | _ => none }
def PatchRecordWrongFalsely : Prop := patchRecordRow.holds Try.pinned (OpenSpec.ofChange patchRecordWrong)

/-- 'workflowlaw19.PatchStays': WHATEVER THE INPUT: true; the input reads as it did. -/
def patchStaysSpec : ChangeSpec := { name := "patchStays", fn := fun _ => fun
  | [d1, d2, d3, d4, d5] => { results := [.lit (.bool true)], args := [d1, d2, d3, d4, d5] }
  | _ => none }
def patchStaysRow : OpenClaim := { program := "ytlnhmlffhjmmiaa", sum := "3d2be13852a6b92844ad72dbb887f8277dd0af7eddebff6b77b4b66fb7dfbb52", func := "workflow/workflowlaw19.PatchStays", spec := "patchStays", unfollowed := true, recurses := true, loops := true, apart := false }
def PatchStaysSaid : Prop := patchStaysRow.holds Try.pinned (OpenSpec.ofChange patchStaysSpec)

/-- ITS FALSE NEIGHBOUR: 'it returns false'. Refute it at one input. -/
def patchStaysWrong : ChangeSpec := { name := "patchStays", fn := fun _ => fun
  | [d1, d2, d3, d4, d5] => { results := [.lit (.bool false)], args := [d1, d2, d3, d4, d5] }
  | _ => none }
def PatchStaysWrongFalsely : Prop := patchStaysRow.holds Try.pinned (OpenSpec.ofChange patchStaysWrong)

/-- 'workflowlaw19.PatchOf': WHATEVER THE INPUT: true; the input reads as it did. -/
def patchOfSpec : ChangeSpec := { name := "patchOf", fn := fun _ => fun
  | [d] => { results := [.lit (.bool true)], args := [d] }
  | _ => none }
def patchOfRow : OpenClaim := { program := "ytlnhmlffhjmmiaa", sum := "3d2be13852a6b92844ad72dbb887f8277dd0af7eddebff6b77b4b66fb7dfbb52", func := "workflow/workflowlaw19.PatchOf", spec := "patchOf", unfollowed := true, recurses := true, loops := true, apart := false }
def PatchOfSaid : Prop := patchOfRow.holds Try.pinned (OpenSpec.ofChange patchOfSpec)

/-- ITS FALSE NEIGHBOUR: 'it returns false'. Refute it at one input. -/
def patchOfWrong : ChangeSpec := { name := "patchOf", fn := fun _ => fun
  | [d] => { results := [.lit (.bool false)], args := [d] }
  | _ => none }
def PatchOfWrongFalsely : Prop := patchOfRow.holds Try.pinned (OpenSpec.ofChange patchOfWrong)

/-- 'workflowlaw19.PatchReplays': WHATEVER THE INPUT: true; the input reads as it did. -/
def patchReplaysSpec : ChangeSpec := { name := "patchReplays", fn := fun _ => fun
  | [d1, d2, d3] => { results := [.lit (.bool true)], args := [d1, d2, d3] }
  | _ => none }
def patchReplaysRow : OpenClaim := { program := "ytlnhmlffhjmmiaa", sum := "3d2be13852a6b92844ad72dbb887f8277dd0af7eddebff6b77b4b66fb7dfbb52", func := "workflow/workflowlaw19.PatchReplays", spec := "patchReplays", unfollowed := true, recurses := true, loops := true, apart := false }
def PatchReplaysSaid : Prop := patchReplaysRow.holds Try.pinned (OpenSpec.ofChange patchReplaysSpec)

/-- ITS FALSE NEIGHBOUR: 'it returns false'. Refute it at one input. -/
def patchReplaysWrong : ChangeSpec := { name := "patchReplays", fn := fun _ => fun
  | [d1, d2, d3] => { results := [.lit (.bool false)], args := [d1, d2, d3] }
  | _ => none }
def PatchReplaysWrongFalsely : Prop := patchReplaysRow.holds Try.pinned (OpenSpec.ofChange patchReplaysWrong)

/- THE SECOND FORM. 'bulk': how many values and letters a reading holds, each counted each time it is reached (what is shared counts as often as it is met; a slice's spare places count too). A statement '..UptoSaid' is the law's where the arguments, and the package variables that the reading takes, are together of bulk at most 1048576: NARROWER than '..Said'. Prove '..Said' where nothing that the law and all that it calls make is longer than what came in: it says more and counts as full. Else prove '..UptoSaid'. A law counts once. -/
mutual
def uptoBulk {H : Type} : DataW H → Nat
  | .lit (.string bytes) => bytes.length + 1
  | .lit _ => 1
  | .nil => 1
  | .ptr d => uptoBulk d + 1
  | .slice elems spare => uptoBulkAll elems + uptoBulkAll spare + 1
  | .agg parts => uptoBulkAll parts + 1
  | .iface _ d => uptoBulk d + 1
  | .map entries => uptoBulkEntries entries + 1
  | .held _ => 1
def uptoBulkAll {H : Type} : List (DataW H) → Nat
  | [] => 0
  | d :: r => uptoBulk d + uptoBulkAll r
def uptoBulkEntries {H : Type} : List (Lit × DataW H) → Nat
  | [] => 0
  | x :: r => uptoBulkEntry x + uptoBulkEntries r
def uptoBulkEntry {H : Type} : Lit × DataW H → Nat
  | (.string bytes, d) => bytes.length + uptoBulk d + 1
  | (_, d) => uptoBulk d + 1
 end
def uptoSmall : (H : Type) → List (DataW H) → Bool := fun _ ds => decide (uptoBulkAll ds ≤ 1048576)
def OpenSpec.upto (s : _root_.Go.ChangeSpec) : _root_.Go.OpenSpec := { _root_.Go.OpenSpec.ofChange s with cond := some uptoSmall }

/-- 'workflowlaw19.PatchVersion', WHERE WHAT IT READS IS OF BULK AT MOST 1048576: true; the input reads as it did. -/
def patchVersionUptoRow : OpenClaim := { program := "ytlnhmlffhjmmiaa", sum := "3d2be13852a6b92844ad72dbb887f8277dd0af7eddebff6b77b4b66fb7dfbb52", func := "workflow/workflowlaw19.PatchVersion", spec := "patchVersion", unfollowed := true, recurses := true, loops := true, apart := false, narrowed := true }
def PatchVersionUptoSaid : Prop := patchVersionUptoRow.holds Try.pinned (OpenSpec.upto patchVersionSpec)

/-- 'workflowlaw19.PatchRecord', WHERE WHAT IT READS IS OF BULK AT MOST 1048576: true; the input reads as it did. -/
def patchRecordUptoRow : OpenClaim := { program := "ytlnhmlffhjmmiaa", sum := "3d2be13852a6b92844ad72dbb887f8277dd0af7eddebff6b77b4b66fb7dfbb52", func := "workflow/workflowlaw19.PatchRecord", spec := "patchRecord", unfollowed := true, recurses := true, loops := true, apart := false, narrowed := true }
def PatchRecordUptoSaid : Prop := patchRecordUptoRow.holds Try.pinned (OpenSpec.upto patchRecordSpec)

/-- 'workflowlaw19.PatchStays', WHERE WHAT IT READS IS OF BULK AT MOST 1048576: true; the input reads as it did. -/
def patchStaysUptoRow : OpenClaim := { program := "ytlnhmlffhjmmiaa", sum := "3d2be13852a6b92844ad72dbb887f8277dd0af7eddebff6b77b4b66fb7dfbb52", func := "workflow/workflowlaw19.PatchStays", spec := "patchStays", unfollowed := true, recurses := true, loops := true, apart := false, narrowed := true }
def PatchStaysUptoSaid : Prop := patchStaysUptoRow.holds Try.pinned (OpenSpec.upto patchStaysSpec)

/-- 'workflowlaw19.PatchOf', WHERE WHAT IT READS IS OF BULK AT MOST 1048576: true; the input reads as it did. -/
def patchOfUptoRow : OpenClaim := { program := "ytlnhmlffhjmmiaa", sum := "3d2be13852a6b92844ad72dbb887f8277dd0af7eddebff6b77b4b66fb7dfbb52", func := "workflow/workflowlaw19.PatchOf", spec := "patchOf", unfollowed := true, recurses := true, loops := true, apart := false, narrowed := true }
def PatchOfUptoSaid : Prop := patchOfUptoRow.holds Try.pinned (OpenSpec.upto patchOfSpec)

/-- 'workflowlaw19.PatchReplays', WHERE WHAT IT READS IS OF BULK AT MOST 1048576: true; the input reads as it did. -/
def patchReplaysUptoRow : OpenClaim := { program := "ytlnhmlffhjmmiaa", sum := "3d2be13852a6b92844ad72dbb887f8277dd0af7eddebff6b77b4b66fb7dfbb52", func := "workflow/workflowlaw19.PatchReplays", spec := "patchReplays", unfollowed := true, recurses := true, loops := true, apart := false, narrowed := true }
def PatchReplaysUptoSaid : Prop := patchReplaysUptoRow.holds Try.pinned (OpenSpec.upto patchReplaysSpec)

end Rows
end Go.Proofs.Ytlnhmlffhjmmiaa
