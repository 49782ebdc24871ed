/-
  NARROWER THAN 'FOR EVERY INPUT', by the rows' own cells (each row's printed sentence says how): UnwindThrow: loops · UnwindNext: loops · UnwindBelow: loops · UnwindMarks: loops · UnwindLeave: loops · UnwindRegister: loops · UnwindReverse: loops.
  DERIVED. THE GIVEN ROWS OF THIS SEAT. 7 by the template 'for every input the law returns true; each argument reads behind the call as it read before'; 0 by the template 'total and deterministic' (their statements: YtafkaofaioleiaaTotals.lean).
  GIVEN WITH THE SEED: the statements are not yours to turn. If you find one false, say at which input.
  Laid BY PROGRAM, IN A SANDBOX (cutbox-rows.mjs): the forced cells as the released guide's own fill.sh prints them over the translation 0fa3a600a040049d… (all of the seat's roots in one cut). By AI agents, Wed Nov 11 2026. No macro, syntax, notation, axiom, sorry.
-/
import Derived.Test.YtafkaofaioleiaaChecked
import GoSem.Claim
import GoSem.ClaimJoined
import GoSem.ClaimMapViews
import Derived.JoinedTies
import Derived.KernelRfl
namespace Go.Proofs.Ytafkaofaioleiaa
/- THE CELL 'sum', in the pinned program and in every row, IS THE sha256 OF THE DUMP (.gsa) THAT YtafkaofaioleiaaProg.lean LOADS. Nothing in Lean hashes anything: it is a label: what it is worth is what the hold of that sum in a sandbox is worth. -/
noncomputable def Try.pinned : Pinned := { name := "ytafkaofaioleiaa", sum := "0fa3a600a040049d60c14d7e136b16a93f9eec612929cf6bca6747c853d5ecfb", checked := Try.checked }
namespace Rows
def none {H : Type} : Left H := { results := [], args := [] }

/-- 'workflowlaw13.UnwindThrow': WHATEVER THE INPUT: true; the input reads as it did. -/
def unwindThrowSpec : ChangeSpec := { name := "unwindThrow", fn := fun _ => fun
  | [d1, d2] => { results := [.lit (.bool true)], args := [d1, d2] }
  | _ => none }
def unwindThrowRow : OpenClaim := { program := "ytafkaofaioleiaa", sum := "0fa3a600a040049d60c14d7e136b16a93f9eec612929cf6bca6747c853d5ecfb", func := "workflow/workflowlaw13.UnwindThrow", spec := "unwindThrow", unfollowed := true, recurses := true, loops := true, apart := false }
def UnwindThrowSaid : Prop := unwindThrowRow.holds Try.pinned (OpenSpec.ofChange unwindThrowSpec)

/-- ITS FALSE NEIGHBOUR: 'it returns false'. Refute it at one input. -/
def unwindThrowWrong : ChangeSpec := { name := "unwindThrow", fn := fun _ => fun
  | [d1, d2] => { results := [.lit (.bool false)], args := [d1, d2] }
  | _ => none }
def UnwindThrowWrongFalsely : Prop := unwindThrowRow.holds Try.pinned (OpenSpec.ofChange unwindThrowWrong)

/-- 'workflowlaw13.UnwindNext': WHATEVER THE INPUT: true; the input reads as it did. -/
def unwindNextSpec : ChangeSpec := { name := "unwindNext", fn := fun _ => fun
  | [d] => { results := [.lit (.bool true)], args := [d] }
  | _ => none }
def unwindNextRow : OpenClaim := { program := "ytafkaofaioleiaa", sum := "0fa3a600a040049d60c14d7e136b16a93f9eec612929cf6bca6747c853d5ecfb", func := "workflow/workflowlaw13.UnwindNext", spec := "unwindNext", unfollowed := true, recurses := true, loops := true, apart := false }
def UnwindNextSaid : Prop := unwindNextRow.holds Try.pinned (OpenSpec.ofChange unwindNextSpec)

/-- ITS FALSE NEIGHBOUR: 'it returns false'. Refute it at one input. -/
def unwindNextWrong : ChangeSpec := { name := "unwindNext", fn := fun _ => fun
  | [d] => { results := [.lit (.bool false)], args := [d] }
  | _ => none }
def UnwindNextWrongFalsely : Prop := unwindNextRow.holds Try.pinned (OpenSpec.ofChange unwindNextWrong)

/-- 'workflowlaw13.UnwindBelow': WHATEVER THE INPUT: true; the input reads as it did. -/
def unwindBelowSpec : ChangeSpec := { name := "unwindBelow", fn := fun _ => fun
  | [d1, d2] => { results := [.lit (.bool true)], args := [d1, d2] }
  | _ => none }
def unwindBelowRow : OpenClaim := { program := "ytafkaofaioleiaa", sum := "0fa3a600a040049d60c14d7e136b16a93f9eec612929cf6bca6747c853d5ecfb", func := "workflow/workflowlaw13.UnwindBelow", spec := "unwindBelow", unfollowed := true, recurses := true, loops := true, apart := false }
def UnwindBelowSaid : Prop := unwindBelowRow.holds Try.pinned (OpenSpec.ofChange unwindBelowSpec)

/-- ITS FALSE NEIGHBOUR: 'it returns false'. Refute it at one input. -/
def unwindBelowWrong : ChangeSpec := { name := "unwindBelow", fn := fun _ => fun
  | [d1, d2] => { results := [.lit (.bool false)], args := [d1, d2] }
  | _ => none }
def UnwindBelowWrongFalsely : Prop := unwindBelowRow.holds Try.pinned (OpenSpec.ofChange unwindBelowWrong)

/-- 'workflowlaw13.UnwindMarks': WHATEVER THE INPUT: true; the input reads as it did. -/
def unwindMarksSpec : ChangeSpec := { name := "unwindMarks", fn := fun _ => fun
  | [d1, d2, d3, d4] => { results := [.lit (.bool true)], args := [d1, d2, d3, d4] }
  | _ => none }
def unwindMarksRow : OpenClaim := { program := "ytafkaofaioleiaa", sum := "0fa3a600a040049d60c14d7e136b16a93f9eec612929cf6bca6747c853d5ecfb", func := "workflow/workflowlaw13.UnwindMarks", spec := "unwindMarks", unfollowed := true, recurses := true, loops := true, apart := false }
def UnwindMarksSaid : Prop := unwindMarksRow.holds Try.pinned (OpenSpec.ofChange unwindMarksSpec)

/-- ITS FALSE NEIGHBOUR: 'it returns false'. Refute it at one input. -/
def unwindMarksWrong : ChangeSpec := { name := "unwindMarks", fn := fun _ => fun
  | [d1, d2, d3, d4] => { results := [.lit (.bool false)], args := [d1, d2, d3, d4] }
  | _ => none }
def UnwindMarksWrongFalsely : Prop := unwindMarksRow.holds Try.pinned (OpenSpec.ofChange unwindMarksWrong)

/-- 'workflowlaw13.UnwindLeave': WHATEVER THE INPUT: true; the input reads as it did. -/
def unwindLeaveSpec : ChangeSpec := { name := "unwindLeave", fn := fun _ => fun
  | [d1, d2, d3, d4] => { results := [.lit (.bool true)], args := [d1, d2, d3, d4] }
  | _ => none }
def unwindLeaveRow : OpenClaim := { program := "ytafkaofaioleiaa", sum := "0fa3a600a040049d60c14d7e136b16a93f9eec612929cf6bca6747c853d5ecfb", func := "workflow/workflowlaw13.UnwindLeave", spec := "unwindLeave", unfollowed := true, recurses := true, loops := true, apart := false }
def UnwindLeaveSaid : Prop := unwindLeaveRow.holds Try.pinned (OpenSpec.ofChange unwindLeaveSpec)

/-- ITS FALSE NEIGHBOUR: 'it returns false'. Refute it at one input. -/
def unwindLeaveWrong : ChangeSpec := { name := "unwindLeave", fn := fun _ => fun
  | [d1, d2, d3, d4] => { results := [.lit (.bool false)], args := [d1, d2, d3, d4] }
  | _ => none }
def UnwindLeaveWrongFalsely : Prop := unwindLeaveRow.holds Try.pinned (OpenSpec.ofChange unwindLeaveWrong)

/-- 'workflowlaw13.UnwindRegister': WHATEVER THE INPUT: true; the input reads as it did. -/
def unwindRegisterSpec : ChangeSpec := { name := "unwindRegister", fn := fun _ => fun
  | [d1, d2] => { results := [.lit (.bool true)], args := [d1, d2] }
  | _ => none }
def unwindRegisterRow : OpenClaim := { program := "ytafkaofaioleiaa", sum := "0fa3a600a040049d60c14d7e136b16a93f9eec612929cf6bca6747c853d5ecfb", func := "workflow/workflowlaw13.UnwindRegister", spec := "unwindRegister", unfollowed := true, recurses := true, loops := true, apart := false }
def UnwindRegisterSaid : Prop := unwindRegisterRow.holds Try.pinned (OpenSpec.ofChange unwindRegisterSpec)

/-- ITS FALSE NEIGHBOUR: 'it returns false'. Refute it at one input. -/
def unwindRegisterWrong : ChangeSpec := { name := "unwindRegister", fn := fun _ => fun
  | [d1, d2] => { results := [.lit (.bool false)], args := [d1, d2] }
  | _ => none }
def UnwindRegisterWrongFalsely : Prop := unwindRegisterRow.holds Try.pinned (OpenSpec.ofChange unwindRegisterWrong)

/-- 'workflowlaw13.UnwindReverse': WHATEVER THE INPUT: true; the input reads as it did. -/
def unwindReverseSpec : ChangeSpec := { name := "unwindReverse", fn := fun _ => fun
  | [d1, d2, d3] => { results := [.lit (.bool true)], args := [d1, d2, d3] }
  | _ => none }
def unwindReverseRow : OpenClaim := { program := "ytafkaofaioleiaa", sum := "0fa3a600a040049d60c14d7e136b16a93f9eec612929cf6bca6747c853d5ecfb", func := "workflow/workflowlaw13.UnwindReverse", spec := "unwindReverse", unfollowed := true, recurses := true, loops := true, apart := false }
def UnwindReverseSaid : Prop := unwindReverseRow.holds Try.pinned (OpenSpec.ofChange unwindReverseSpec)

/-- ITS FALSE NEIGHBOUR: 'it returns false'. Refute it at one input. -/
def unwindReverseWrong : ChangeSpec := { name := "unwindReverse", fn := fun _ => fun
  | [d1, d2, d3] => { results := [.lit (.bool false)], args := [d1, d2, d3] }
  | _ => none }
def UnwindReverseWrongFalsely : Prop := unwindReverseRow.holds Try.pinned (OpenSpec.ofChange unwindReverseWrong)

/- THE SECOND FORM. 'bulk': how many values and letters a reading holds, each counted each time it is reached (what is shared counts as often as it is met; a slice's spare places count too). A statement '..UptoSaid' is the law's where the arguments, and the package variables that the reading takes, are together of bulk at most 1048576: NARROWER than '..Said'. Prove '..Said' where nothing that the law and all that it calls make is longer than what came in: it says more and counts as full. Else prove '..UptoSaid'. A law counts once. -/
mutual
def uptoBulk {H : Type} : DataW H → Nat
  | .lit (.string bytes) => bytes.length + 1
  | .lit _ => 1
  | .nil => 1
  | .ptr d => uptoBulk d + 1
  | .slice elems spare => uptoBulkAll elems + uptoBulkAll spare + 1
  | .agg parts => uptoBulkAll parts + 1
  | .iface _ d => uptoBulk d + 1
  | .map entries => uptoBulkEntries entries + 1
  | .held _ => 1
def uptoBulkAll {H : Type} : List (DataW H) → Nat
  | [] => 0
  | d :: r => uptoBulk d + uptoBulkAll r
def uptoBulkEntries {H : Type} : List (Lit × DataW H) → Nat
  | [] => 0
  | x :: r => uptoBulkEntry x + uptoBulkEntries r
def uptoBulkEntry {H : Type} : Lit × DataW H → Nat
  | (.string bytes, d) => bytes.length + uptoBulk d + 1
  | (_, d) => uptoBulk d + 1
 end
def uptoSmall : (H : Type) → List (DataW H) → Bool := fun _ ds => decide (uptoBulkAll ds ≤ 1048576)
def OpenSpec.upto (s : _root_.Go.ChangeSpec) : _root_.Go.OpenSpec := { _root_.Go.OpenSpec.ofChange s with cond := some uptoSmall }

/-- 'workflowlaw13.UnwindThrow', WHERE WHAT IT READS IS OF BULK AT MOST 1048576: true; the input reads as it did. -/
def unwindThrowUptoRow : OpenClaim := { program := "ytafkaofaioleiaa", sum := "0fa3a600a040049d60c14d7e136b16a93f9eec612929cf6bca6747c853d5ecfb", func := "workflow/workflowlaw13.UnwindThrow", spec := "unwindThrow", unfollowed := true, recurses := true, loops := true, apart := false, narrowed := true }
def UnwindThrowUptoSaid : Prop := unwindThrowUptoRow.holds Try.pinned (OpenSpec.upto unwindThrowSpec)

/-- 'workflowlaw13.UnwindNext', WHERE WHAT IT READS IS OF BULK AT MOST 1048576: true; the input reads as it did. -/
def unwindNextUptoRow : OpenClaim := { program := "ytafkaofaioleiaa", sum := "0fa3a600a040049d60c14d7e136b16a93f9eec612929cf6bca6747c853d5ecfb", func := "workflow/workflowlaw13.UnwindNext", spec := "unwindNext", unfollowed := true, recurses := true, loops := true, apart := false, narrowed := true }
def UnwindNextUptoSaid : Prop := unwindNextUptoRow.holds Try.pinned (OpenSpec.upto unwindNextSpec)

/-- 'workflowlaw13.UnwindBelow', WHERE WHAT IT READS IS OF BULK AT MOST 1048576: true; the input reads as it did. -/
def unwindBelowUptoRow : OpenClaim := { program := "ytafkaofaioleiaa", sum := "0fa3a600a040049d60c14d7e136b16a93f9eec612929cf6bca6747c853d5ecfb", func := "workflow/workflowlaw13.UnwindBelow", spec := "unwindBelow", unfollowed := true, recurses := true, loops := true, apart := false, narrowed := true }
def UnwindBelowUptoSaid : Prop := unwindBelowUptoRow.holds Try.pinned (OpenSpec.upto unwindBelowSpec)

/-- 'workflowlaw13.UnwindMarks', WHERE WHAT IT READS IS OF BULK AT MOST 1048576: true; the input reads as it did. -/
def unwindMarksUptoRow : OpenClaim := { program := "ytafkaofaioleiaa", sum := "0fa3a600a040049d60c14d7e136b16a93f9eec612929cf6bca6747c853d5ecfb", func := "workflow/workflowlaw13.UnwindMarks", spec := "unwindMarks", unfollowed := true, recurses := true, loops := true, apart := false, narrowed := true }
def UnwindMarksUptoSaid : Prop := unwindMarksUptoRow.holds Try.pinned (OpenSpec.upto unwindMarksSpec)

/-- 'workflowlaw13.UnwindLeave', WHERE WHAT IT READS IS OF BULK AT MOST 1048576: true; the input reads as it did. -/
def unwindLeaveUptoRow : OpenClaim := { program := "ytafkaofaioleiaa", sum := "0fa3a600a040049d60c14d7e136b16a93f9eec612929cf6bca6747c853d5ecfb", func := "workflow/workflowlaw13.UnwindLeave", spec := "unwindLeave", unfollowed := true, recurses := true, loops := true, apart := false, narrowed := true }
def UnwindLeaveUptoSaid : Prop := unwindLeaveUptoRow.holds Try.pinned (OpenSpec.upto unwindLeaveSpec)

/-- 'workflowlaw13.UnwindRegister', WHERE WHAT IT READS IS OF BULK AT MOST 1048576: true; the input reads as it did. -/
def unwindRegisterUptoRow : OpenClaim := { program := "ytafkaofaioleiaa", sum := "0fa3a600a040049d60c14d7e136b16a93f9eec612929cf6bca6747c853d5ecfb", func := "workflow/workflowlaw13.UnwindRegister", spec := "unwindRegister", unfollowed := true, recurses := true, loops := true, apart := false, narrowed := true }
def UnwindRegisterUptoSaid : Prop := unwindRegisterUptoRow.holds Try.pinned (OpenSpec.upto unwindRegisterSpec)

/-- 'workflowlaw13.UnwindReverse', WHERE WHAT IT READS IS OF BULK AT MOST 1048576: true; the input reads as it did. -/
def unwindReverseUptoRow : OpenClaim := { program := "ytafkaofaioleiaa", sum := "0fa3a600a040049d60c14d7e136b16a93f9eec612929cf6bca6747c853d5ecfb", func := "workflow/workflowlaw13.UnwindReverse", spec := "unwindReverse", unfollowed := true, recurses := true, loops := true, apart := false, narrowed := true }
def UnwindReverseUptoSaid : Prop := unwindReverseUptoRow.holds Try.pinned (OpenSpec.upto unwindReverseSpec)

end Rows
end Go.Proofs.Ytafkaofaioleiaa
