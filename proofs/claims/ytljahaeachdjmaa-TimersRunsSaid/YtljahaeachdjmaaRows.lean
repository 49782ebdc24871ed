/-
  No cell of these rows narrows 'for every input' (looked for: loops, veiled, ifaces, maps, wideKeys, modest, calm, conditions, laid).
  DERIVED. THE GIVEN ROWS OF THIS SEAT. 5 by the template 'for every input the law returns true; each argument reads behind the call as it read before'; 0 by the template 'total and deterministic' (their statements: YtljahaeachdjmaaTotals.lean).
  GIVEN WITH THE SEED: the statements are not yours to turn. If you find one false, say at which input.
  Laid BY PROGRAM, IN A SANDBOX (cutbox-rows.mjs): the forced cells as the released guide's own fill.sh prints them over the translation 74bf418a3dd62763… (all of the seat's roots in one cut). By AI agents, Wed Nov 11 2026. No macro, syntax, notation, axiom, sorry.
-/
import Derived.Test.YtljahaeachdjmaaChecked
import GoSem.Claim
import GoSem.ClaimJoined
import GoSem.ClaimMapViews
import Derived.JoinedTies
import Derived.KernelRfl
namespace Go.Proofs.Ytljahaeachdjmaa
/- THE CELL 'sum', in the pinned program and in every row, IS THE sha256 OF THE DUMP (.gsa) THAT YtljahaeachdjmaaProg.lean LOADS. Nothing in Lean hashes anything: it is a label: what it is worth is what the hold of that sum in a sandbox is worth. -/
noncomputable def Try.pinned : Pinned := { name := "ytljahaeachdjmaa", sum := "74bf418a3dd6276393dc8f18980f9dccb016dd7729f58117504805b4637187a5", checked := Try.checked }
namespace Rows
def none {H : Type} : Left H := { results := [], args := [] }

/-- 'workflowlaw37.TimersCancel': WHATEVER THE INPUT: true; the input reads as it did. -/
def timersCancelSpec : ChangeSpec := { name := "timersCancel", fn := fun _ => fun
  | [d1, d2] => { results := [.lit (.bool true)], args := [d1, d2] }
  | _ => none }
def timersCancelRow : OpenClaim := { program := "ytljahaeachdjmaa", sum := "74bf418a3dd6276393dc8f18980f9dccb016dd7729f58117504805b4637187a5", func := "workflow/workflowlaw37.TimersCancel", spec := "timersCancel", unfollowed := true, recurses := true, apart := false }
def TimersCancelSaid : Prop := timersCancelRow.holds Try.pinned (OpenSpec.ofChange timersCancelSpec)

/-- ITS FALSE NEIGHBOUR: 'it returns false'. Refute it at one input. -/
def timersCancelWrong : ChangeSpec := { name := "timersCancel", fn := fun _ => fun
  | [d1, d2] => { results := [.lit (.bool false)], args := [d1, d2] }
  | _ => none }
def TimersCancelWrongFalsely : Prop := timersCancelRow.holds Try.pinned (OpenSpec.ofChange timersCancelWrong)

/-- 'workflowlaw37.TimersRuns': WHATEVER THE INPUT: true; the input reads as it did. -/
def timersRunsSpec : ChangeSpec := { name := "timersRuns", fn := fun _ => fun
  | [d] => { results := [.lit (.bool true)], args := [d] }
  | _ => none }
def timersRunsRow : OpenClaim := { program := "ytljahaeachdjmaa", sum := "74bf418a3dd6276393dc8f18980f9dccb016dd7729f58117504805b4637187a5", func := "workflow/workflowlaw37.TimersRuns", spec := "timersRuns", unfollowed := true, recurses := true, apart := false }
def TimersRunsSaid : Prop := timersRunsRow.holds Try.pinned (OpenSpec.ofChange timersRunsSpec)

/-- ITS FALSE NEIGHBOUR: 'it returns false'. Refute it at one input. -/
def timersRunsWrong : ChangeSpec := { name := "timersRuns", fn := fun _ => fun
  | [d] => { results := [.lit (.bool false)], args := [d] }
  | _ => none }
def TimersRunsWrongFalsely : Prop := timersRunsRow.holds Try.pinned (OpenSpec.ofChange timersRunsWrong)

/-- 'workflowlaw37.TimersOrder': WHATEVER THE INPUT: true; the input reads as it did. -/
def timersOrderSpec : ChangeSpec := { name := "timersOrder", fn := fun _ => fun
  | [d1, d2] => { results := [.lit (.bool true)], args := [d1, d2] }
  | _ => none }
def timersOrderRow : OpenClaim := { program := "ytljahaeachdjmaa", sum := "74bf418a3dd6276393dc8f18980f9dccb016dd7729f58117504805b4637187a5", func := "workflow/workflowlaw37.TimersOrder", spec := "timersOrder", unfollowed := true, recurses := true, apart := false }
def TimersOrderSaid : Prop := timersOrderRow.holds Try.pinned (OpenSpec.ofChange timersOrderSpec)

/-- ITS FALSE NEIGHBOUR: 'it returns false'. Refute it at one input. -/
def timersOrderWrong : ChangeSpec := { name := "timersOrder", fn := fun _ => fun
  | [d1, d2] => { results := [.lit (.bool false)], args := [d1, d2] }
  | _ => none }
def TimersOrderWrongFalsely : Prop := timersOrderRow.holds Try.pinned (OpenSpec.ofChange timersOrderWrong)

/-- 'workflowlaw37.TimersSplit': WHATEVER THE INPUT: true; the input reads as it did. -/
def timersSplitSpec : ChangeSpec := { name := "timersSplit", fn := fun _ => fun
  | [d1, d2, d3] => { results := [.lit (.bool true)], args := [d1, d2, d3] }
  | _ => none }
def timersSplitRow : OpenClaim := { program := "ytljahaeachdjmaa", sum := "74bf418a3dd6276393dc8f18980f9dccb016dd7729f58117504805b4637187a5", func := "workflow/workflowlaw37.TimersSplit", spec := "timersSplit", unfollowed := true, recurses := true, apart := false }
def TimersSplitSaid : Prop := timersSplitRow.holds Try.pinned (OpenSpec.ofChange timersSplitSpec)

/-- ITS FALSE NEIGHBOUR: 'it returns false'. Refute it at one input. -/
def timersSplitWrong : ChangeSpec := { name := "timersSplit", fn := fun _ => fun
  | [d1, d2, d3] => { results := [.lit (.bool false)], args := [d1, d2, d3] }
  | _ => none }
def TimersSplitWrongFalsely : Prop := timersSplitRow.holds Try.pinned (OpenSpec.ofChange timersSplitWrong)

/-- 'workflowlaw37.TimersNil': WHATEVER THE INPUT: true; the input reads as it did. -/
def timersNilSpec : ChangeSpec := { name := "timersNil", fn := fun _ => fun
  | [d] => { results := [.lit (.bool true)], args := [d] }
  | _ => none }
def timersNilRow : OpenClaim := { program := "ytljahaeachdjmaa", sum := "74bf418a3dd6276393dc8f18980f9dccb016dd7729f58117504805b4637187a5", func := "workflow/workflowlaw37.TimersNil", spec := "timersNil", unfollowed := true, recurses := true, apart := false }
def TimersNilSaid : Prop := timersNilRow.holds Try.pinned (OpenSpec.ofChange timersNilSpec)

/-- ITS FALSE NEIGHBOUR: 'it returns false'. Refute it at one input. -/
def timersNilWrong : ChangeSpec := { name := "timersNil", fn := fun _ => fun
  | [d] => { results := [.lit (.bool false)], args := [d] }
  | _ => none }
def TimersNilWrongFalsely : Prop := timersNilRow.holds Try.pinned (OpenSpec.ofChange timersNilWrong)

/- THE SECOND FORM. 'bulk': how many values and letters a reading holds, each counted each time it is reached (what is shared counts as often as it is met; a slice's spare places count too). A statement '..UptoSaid' is the law's where the arguments, and the package variables that the reading takes, are together of bulk at most 1048576: NARROWER than '..Said'. Prove '..Said' where nothing that the law and all that it calls make is longer than what came in: it says more and counts as full. Else prove '..UptoSaid'. A law counts once. -/
mutual
def uptoBulk {H : Type} : DataW H → Nat
  | .lit (.string bytes) => bytes.length + 1
  | .lit _ => 1
  | .nil => 1
  | .ptr d => uptoBulk d + 1
  | .slice elems spare => uptoBulkAll elems + uptoBulkAll spare + 1
  | .agg parts => uptoBulkAll parts + 1
  | .iface _ d => uptoBulk d + 1
  | .map entries => uptoBulkEntries entries + 1
  | .held _ => 1
def uptoBulkAll {H : Type} : List (DataW H) → Nat
  | [] => 0
  | d :: r => uptoBulk d + uptoBulkAll r
def uptoBulkEntries {H : Type} : List (Lit × DataW H) → Nat
  | [] => 0
  | x :: r => uptoBulkEntry x + uptoBulkEntries r
def uptoBulkEntry {H : Type} : Lit × DataW H → Nat
  | (.string bytes, d) => bytes.length + uptoBulk d + 1
  | (_, d) => uptoBulk d + 1
 end
def uptoSmall : (H : Type) → List (DataW H) → Bool := fun _ ds => decide (uptoBulkAll ds ≤ 1048576)
def OpenSpec.upto (s : _root_.Go.ChangeSpec) : _root_.Go.OpenSpec := { _root_.Go.OpenSpec.ofChange s with cond := some uptoSmall }

/-- 'workflowlaw37.TimersCancel', WHERE WHAT IT READS IS OF BULK AT MOST 1048576: true; the input reads as it did. -/
def timersCancelUptoRow : OpenClaim := { program := "ytljahaeachdjmaa", sum := "74bf418a3dd6276393dc8f18980f9dccb016dd7729f58117504805b4637187a5", func := "workflow/workflowlaw37.TimersCancel", spec := "timersCancel", unfollowed := true, recurses := true, apart := false, narrowed := true }
def TimersCancelUptoSaid : Prop := timersCancelUptoRow.holds Try.pinned (OpenSpec.upto timersCancelSpec)

/-- 'workflowlaw37.TimersRuns', WHERE WHAT IT READS IS OF BULK AT MOST 1048576: true; the input reads as it did. -/
def timersRunsUptoRow : OpenClaim := { program := "ytljahaeachdjmaa", sum := "74bf418a3dd6276393dc8f18980f9dccb016dd7729f58117504805b4637187a5", func := "workflow/workflowlaw37.TimersRuns", spec := "timersRuns", unfollowed := true, recurses := true, apart := false, narrowed := true }
def TimersRunsUptoSaid : Prop := timersRunsUptoRow.holds Try.pinned (OpenSpec.upto timersRunsSpec)

/-- 'workflowlaw37.TimersOrder', WHERE WHAT IT READS IS OF BULK AT MOST 1048576: true; the input reads as it did. -/
def timersOrderUptoRow : OpenClaim := { program := "ytljahaeachdjmaa", sum := "74bf418a3dd6276393dc8f18980f9dccb016dd7729f58117504805b4637187a5", func := "workflow/workflowlaw37.TimersOrder", spec := "timersOrder", unfollowed := true, recurses := true, apart := false, narrowed := true }
def TimersOrderUptoSaid : Prop := timersOrderUptoRow.holds Try.pinned (OpenSpec.upto timersOrderSpec)

/-- 'workflowlaw37.TimersSplit', WHERE WHAT IT READS IS OF BULK AT MOST 1048576: true; the input reads as it did. -/
def timersSplitUptoRow : OpenClaim := { program := "ytljahaeachdjmaa", sum := "74bf418a3dd6276393dc8f18980f9dccb016dd7729f58117504805b4637187a5", func := "workflow/workflowlaw37.TimersSplit", spec := "timersSplit", unfollowed := true, recurses := true, apart := false, narrowed := true }
def TimersSplitUptoSaid : Prop := timersSplitUptoRow.holds Try.pinned (OpenSpec.upto timersSplitSpec)

/-- 'workflowlaw37.TimersNil', WHERE WHAT IT READS IS OF BULK AT MOST 1048576: true; the input reads as it did. -/
def timersNilUptoRow : OpenClaim := { program := "ytljahaeachdjmaa", sum := "74bf418a3dd6276393dc8f18980f9dccb016dd7729f58117504805b4637187a5", func := "workflow/workflowlaw37.TimersNil", spec := "timersNil", unfollowed := true, recurses := true, apart := false, narrowed := true }
def TimersNilUptoSaid : Prop := timersNilUptoRow.holds Try.pinned (OpenSpec.upto timersNilSpec)

end Rows
end Go.Proofs.Ytljahaeachdjmaa
