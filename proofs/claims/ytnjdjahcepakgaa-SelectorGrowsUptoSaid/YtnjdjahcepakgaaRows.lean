/-
  NARROWER THAN 'FOR EVERY INPUT', by the rows' own cells (each row's printed sentence says how): SelectorReady: loops · SelectorWakes: loops · SelectorGrows: loops · SelectorNext: loops.
  DERIVED. THE GIVEN ROWS OF THIS SEAT. 4 by the template 'for every input the law returns true; each argument reads behind the call as it read before'; 0 by the template 'total and deterministic' (their statements: YtnjdjahcepakgaaTotals.lean).
  GIVEN WITH THE SEED: the statements are not yours to turn. If you find one false, say at which input.
  Laid BY PROGRAM, IN A SANDBOX (cutbox-rows.mjs): the forced cells as the released guide's own fill.sh prints them over the translation 86dba819e91dda72… (all of the seat's roots in one cut). By AI agents, Wed Nov 11 2026. No macro, syntax, notation, axiom, sorry.
-/
import Derived.Test.YtnjdjahcepakgaaChecked
import GoSem.Claim
import GoSem.ClaimJoined
import GoSem.ClaimMapViews
import Derived.JoinedTies
import Derived.KernelRfl
namespace Go.Proofs.Ytnjdjahcepakgaa
/- THE CELL 'sum', in the pinned program and in every row, IS THE sha256 OF THE DUMP (.gsa) THAT YtnjdjahcepakgaaProg.lean LOADS. Nothing in Lean hashes anything: it is a label: what it is worth is what the hold of that sum in a sandbox is worth. -/
noncomputable def Try.pinned : Pinned := { name := "ytnjdjahcepakgaa", sum := "86dba819e91dda722cc8d9dff4a565667196215a8980bd5b35108ee614ddfb34", checked := Try.checked }
namespace Rows
def none {H : Type} : Left H := { results := [], args := [] }

/-- 'workflowlaw17.SelectorReady': WHATEVER THE INPUT: true; the input reads as it did. -/
def selectorReadySpec : ChangeSpec := { name := "selectorReady", fn := fun _ => fun
  | [d1, d2] => { results := [.lit (.bool true)], args := [d1, d2] }
  | _ => none }
def selectorReadyRow : OpenClaim := { program := "ytnjdjahcepakgaa", sum := "86dba819e91dda722cc8d9dff4a565667196215a8980bd5b35108ee614ddfb34", func := "workflow/workflowlaw17.SelectorReady", spec := "selectorReady", unfollowed := true, recurses := true, loops := true, apart := false }
def SelectorReadySaid : Prop := selectorReadyRow.holds Try.pinned (OpenSpec.ofChange selectorReadySpec)

/-- ITS FALSE NEIGHBOUR: 'it returns false'. Refute it at one input. -/
def selectorReadyWrong : ChangeSpec := { name := "selectorReady", fn := fun _ => fun
  | [d1, d2] => { results := [.lit (.bool false)], args := [d1, d2] }
  | _ => none }
def SelectorReadyWrongFalsely : Prop := selectorReadyRow.holds Try.pinned (OpenSpec.ofChange selectorReadyWrong)

/-- 'workflowlaw17.SelectorWakes': WHATEVER THE INPUT: true; the input reads as it did. -/
def selectorWakesSpec : ChangeSpec := { name := "selectorWakes", fn := fun _ => fun
  | [d1, d2] => { results := [.lit (.bool true)], args := [d1, d2] }
  | _ => none }
def selectorWakesRow : OpenClaim := { program := "ytnjdjahcepakgaa", sum := "86dba819e91dda722cc8d9dff4a565667196215a8980bd5b35108ee614ddfb34", func := "workflow/workflowlaw17.SelectorWakes", spec := "selectorWakes", unfollowed := true, recurses := true, loops := true, apart := false }
def SelectorWakesSaid : Prop := selectorWakesRow.holds Try.pinned (OpenSpec.ofChange selectorWakesSpec)

/-- ITS FALSE NEIGHBOUR: 'it returns false'. Refute it at one input. -/
def selectorWakesWrong : ChangeSpec := { name := "selectorWakes", fn := fun _ => fun
  | [d1, d2] => { results := [.lit (.bool false)], args := [d1, d2] }
  | _ => none }
def SelectorWakesWrongFalsely : Prop := selectorWakesRow.holds Try.pinned (OpenSpec.ofChange selectorWakesWrong)

/-- 'workflowlaw17.SelectorGrows': WHATEVER THE INPUT: true; the input reads as it did. -/
def selectorGrowsSpec : ChangeSpec := { name := "selectorGrows", fn := fun _ => fun
  | [d1, d2, d3] => { results := [.lit (.bool true)], args := [d1, d2, d3] }
  | _ => none }
def selectorGrowsRow : OpenClaim := { program := "ytnjdjahcepakgaa", sum := "86dba819e91dda722cc8d9dff4a565667196215a8980bd5b35108ee614ddfb34", func := "workflow/workflowlaw17.SelectorGrows", spec := "selectorGrows", unfollowed := true, recurses := true, loops := true, apart := false }
def SelectorGrowsSaid : Prop := selectorGrowsRow.holds Try.pinned (OpenSpec.ofChange selectorGrowsSpec)

/-- ITS FALSE NEIGHBOUR: 'it returns false'. Refute it at one input. -/
def selectorGrowsWrong : ChangeSpec := { name := "selectorGrows", fn := fun _ => fun
  | [d1, d2, d3] => { results := [.lit (.bool false)], args := [d1, d2, d3] }
  | _ => none }
def SelectorGrowsWrongFalsely : Prop := selectorGrowsRow.holds Try.pinned (OpenSpec.ofChange selectorGrowsWrong)

/-- 'workflowlaw17.SelectorNext': WHATEVER THE INPUT: true; the input reads as it did. -/
def selectorNextSpec : ChangeSpec := { name := "selectorNext", fn := fun _ => fun
  | [d] => { results := [.lit (.bool true)], args := [d] }
  | _ => none }
def selectorNextRow : OpenClaim := { program := "ytnjdjahcepakgaa", sum := "86dba819e91dda722cc8d9dff4a565667196215a8980bd5b35108ee614ddfb34", func := "workflow/workflowlaw17.SelectorNext", spec := "selectorNext", unfollowed := true, recurses := true, loops := true, apart := false }
def SelectorNextSaid : Prop := selectorNextRow.holds Try.pinned (OpenSpec.ofChange selectorNextSpec)

/-- ITS FALSE NEIGHBOUR: 'it returns false'. Refute it at one input. -/
def selectorNextWrong : ChangeSpec := { name := "selectorNext", fn := fun _ => fun
  | [d] => { results := [.lit (.bool false)], args := [d] }
  | _ => none }
def SelectorNextWrongFalsely : Prop := selectorNextRow.holds Try.pinned (OpenSpec.ofChange selectorNextWrong)

/- THE SECOND FORM. 'bulk': how many values and letters a reading holds, each counted each time it is reached (what is shared counts as often as it is met; a slice's spare places count too). A statement '..UptoSaid' is the law's where the arguments, and the package variables that the reading takes, are together of bulk at most 1048576: NARROWER than '..Said'. Prove '..Said' where nothing that the law and all that it calls make is longer than what came in: it says more and counts as full. Else prove '..UptoSaid'. A law counts once. -/
mutual
def uptoBulk {H : Type} : DataW H → Nat
  | .lit (.string bytes) => bytes.length + 1
  | .lit _ => 1
  | .nil => 1
  | .ptr d => uptoBulk d + 1
  | .slice elems spare => uptoBulkAll elems + uptoBulkAll spare + 1
  | .agg parts => uptoBulkAll parts + 1
  | .iface _ d => uptoBulk d + 1
  | .map entries => uptoBulkEntries entries + 1
  | .held _ => 1
def uptoBulkAll {H : Type} : List (DataW H) → Nat
  | [] => 0
  | d :: r => uptoBulk d + uptoBulkAll r
def uptoBulkEntries {H : Type} : List (Lit × DataW H) → Nat
  | [] => 0
  | x :: r => uptoBulkEntry x + uptoBulkEntries r
def uptoBulkEntry {H : Type} : Lit × DataW H → Nat
  | (.string bytes, d) => bytes.length + uptoBulk d + 1
  | (_, d) => uptoBulk d + 1
 end
def uptoSmall : (H : Type) → List (DataW H) → Bool := fun _ ds => decide (uptoBulkAll ds ≤ 1048576)
def OpenSpec.upto (s : _root_.Go.ChangeSpec) : _root_.Go.OpenSpec := { _root_.Go.OpenSpec.ofChange s with cond := some uptoSmall }

/-- 'workflowlaw17.SelectorReady', WHERE WHAT IT READS IS OF BULK AT MOST 1048576: true; the input reads as it did. -/
def selectorReadyUptoRow : OpenClaim := { program := "ytnjdjahcepakgaa", sum := "86dba819e91dda722cc8d9dff4a565667196215a8980bd5b35108ee614ddfb34", func := "workflow/workflowlaw17.SelectorReady", spec := "selectorReady", unfollowed := true, recurses := true, loops := true, apart := false, narrowed := true }
def SelectorReadyUptoSaid : Prop := selectorReadyUptoRow.holds Try.pinned (OpenSpec.upto selectorReadySpec)

/-- 'workflowlaw17.SelectorWakes', WHERE WHAT IT READS IS OF BULK AT MOST 1048576: true; the input reads as it did. -/
def selectorWakesUptoRow : OpenClaim := { program := "ytnjdjahcepakgaa", sum := "86dba819e91dda722cc8d9dff4a565667196215a8980bd5b35108ee614ddfb34", func := "workflow/workflowlaw17.SelectorWakes", spec := "selectorWakes", unfollowed := true, recurses := true, loops := true, apart := false, narrowed := true }
def SelectorWakesUptoSaid : Prop := selectorWakesUptoRow.holds Try.pinned (OpenSpec.upto selectorWakesSpec)

/-- 'workflowlaw17.SelectorGrows', WHERE WHAT IT READS IS OF BULK AT MOST 1048576: true; the input reads as it did. -/
def selectorGrowsUptoRow : OpenClaim := { program := "ytnjdjahcepakgaa", sum := "86dba819e91dda722cc8d9dff4a565667196215a8980bd5b35108ee614ddfb34", func := "workflow/workflowlaw17.SelectorGrows", spec := "selectorGrows", unfollowed := true, recurses := true, loops := true, apart := false, narrowed := true }
def SelectorGrowsUptoSaid : Prop := selectorGrowsUptoRow.holds Try.pinned (OpenSpec.upto selectorGrowsSpec)

/-- 'workflowlaw17.SelectorNext', WHERE WHAT IT READS IS OF BULK AT MOST 1048576: true; the input reads as it did. -/
def selectorNextUptoRow : OpenClaim := { program := "ytnjdjahcepakgaa", sum := "86dba819e91dda722cc8d9dff4a565667196215a8980bd5b35108ee614ddfb34", func := "workflow/workflowlaw17.SelectorNext", spec := "selectorNext", unfollowed := true, recurses := true, loops := true, apart := false, narrowed := true }
def SelectorNextUptoSaid : Prop := selectorNextUptoRow.holds Try.pinned (OpenSpec.upto selectorNextSpec)

end Rows
end Go.Proofs.Ytnjdjahcepakgaa
