/-
  No cell of these rows narrows 'for every input' (looked for: loops, veiled, ifaces, maps, wideKeys, modest, calm, conditions, laid).
  DERIVED. THE GIVEN ROWS OF THIS SEAT. 4 by the template 'for every input the law returns true; each argument reads behind the call as it read before'; 0 by the template 'total and deterministic' (their statements: YtloccbmiojhabaaTotals.lean).
  GIVEN WITH THE SEED: the statements are not yours to turn. If you find one false, say at which input.
  Laid BY PROGRAM, IN A SANDBOX (cutbox-rows.mjs): the forced cells as the released guide's own fill.sh prints them over the translation f2849ae067c4dbe5… (all of the seat's roots in one cut). By AI agents, Wed Nov 11 2026. No macro, syntax, notation, axiom, sorry.
-/
import Derived.Test.YtloccbmiojhabaaChecked
import GoSem.Claim
import GoSem.ClaimJoined
import GoSem.ClaimMapViews
import Derived.JoinedTies
import Derived.KernelRfl
namespace Go.Proofs.Ytloccbmiojhabaa
/- THE CELL 'sum', in the pinned program and in every row, IS THE sha256 OF THE DUMP (.gsa) THAT YtloccbmiojhabaaProg.lean LOADS. Nothing in Lean hashes anything: it is a label: what it is worth is what the hold of that sum in a sandbox is worth. -/
noncomputable def Try.pinned : Pinned := { name := "ytloccbmiojhabaa", sum := "f2849ae067c4dbe5580d60d235d3520aa0aa2a8929c3d20151e5180502565752", checked := Try.checked }
namespace Rows
def none {H : Type} : Left H := { results := [], args := [] }

/-- 'workflowlaw40.TaskqueueAdd': WHATEVER THE INPUT: true; the input reads as it did. -/
def taskqueueAddSpec : ChangeSpec := { name := "taskqueueAdd", fn := fun _ => fun
  | [d1, d2] => { results := [.lit (.bool true)], args := [d1, d2] }
  | _ => none }
def taskqueueAddRow : OpenClaim := { program := "ytloccbmiojhabaa", sum := "f2849ae067c4dbe5580d60d235d3520aa0aa2a8929c3d20151e5180502565752", func := "workflow/workflowlaw40.TaskqueueAdd", spec := "taskqueueAdd", unfollowed := true, recurses := true, apart := false }
def TaskqueueAddSaid : Prop := taskqueueAddRow.holds Try.pinned (OpenSpec.ofChange taskqueueAddSpec)

/-- ITS FALSE NEIGHBOUR: 'it returns false'. Refute it at one input. -/
def taskqueueAddWrong : ChangeSpec := { name := "taskqueueAdd", fn := fun _ => fun
  | [d1, d2] => { results := [.lit (.bool false)], args := [d1, d2] }
  | _ => none }
def TaskqueueAddWrongFalsely : Prop := taskqueueAddRow.holds Try.pinned (OpenSpec.ofChange taskqueueAddWrong)

/-- 'workflowlaw40.TaskqueuePoll': WHATEVER THE INPUT: true; the input reads as it did. -/
def taskqueuePollSpec : ChangeSpec := { name := "taskqueuePoll", fn := fun _ => fun
  | [d1, d2, d3, d4] => { results := [.lit (.bool true)], args := [d1, d2, d3, d4] }
  | _ => none }
def taskqueuePollRow : OpenClaim := { program := "ytloccbmiojhabaa", sum := "f2849ae067c4dbe5580d60d235d3520aa0aa2a8929c3d20151e5180502565752", func := "workflow/workflowlaw40.TaskqueuePoll", spec := "taskqueuePoll", unfollowed := true, recurses := true, apart := false }
def TaskqueuePollSaid : Prop := taskqueuePollRow.holds Try.pinned (OpenSpec.ofChange taskqueuePollSpec)

/-- ITS FALSE NEIGHBOUR: 'it returns false'. Refute it at one input. -/
def taskqueuePollWrong : ChangeSpec := { name := "taskqueuePoll", fn := fun _ => fun
  | [d1, d2, d3, d4] => { results := [.lit (.bool false)], args := [d1, d2, d3, d4] }
  | _ => none }
def TaskqueuePollWrongFalsely : Prop := taskqueuePollRow.holds Try.pinned (OpenSpec.ofChange taskqueuePollWrong)

/-- 'workflowlaw40.TaskqueueTokens': WHATEVER THE INPUT: true; the input reads as it did. -/
def taskqueueTokensSpec : ChangeSpec := { name := "taskqueueTokens", fn := fun _ => fun
  | [d1, d2, d3, d4] => { results := [.lit (.bool true)], args := [d1, d2, d3, d4] }
  | _ => none }
def taskqueueTokensRow : OpenClaim := { program := "ytloccbmiojhabaa", sum := "f2849ae067c4dbe5580d60d235d3520aa0aa2a8929c3d20151e5180502565752", func := "workflow/workflowlaw40.TaskqueueTokens", spec := "taskqueueTokens", unfollowed := true, recurses := true, apart := false }
def TaskqueueTokensSaid : Prop := taskqueueTokensRow.holds Try.pinned (OpenSpec.ofChange taskqueueTokensSpec)

/-- ITS FALSE NEIGHBOUR: 'it returns false'. Refute it at one input. -/
def taskqueueTokensWrong : ChangeSpec := { name := "taskqueueTokens", fn := fun _ => fun
  | [d1, d2, d3, d4] => { results := [.lit (.bool false)], args := [d1, d2, d3, d4] }
  | _ => none }
def TaskqueueTokensWrongFalsely : Prop := taskqueueTokensRow.holds Try.pinned (OpenSpec.ofChange taskqueueTokensWrong)

/-- 'workflowlaw40.TaskqueueOnce': WHATEVER THE INPUT: true; the input reads as it did. -/
def taskqueueOnceSpec : ChangeSpec := { name := "taskqueueOnce", fn := fun _ => fun
  | [d] => { results := [.lit (.bool true)], args := [d] }
  | _ => none }
def taskqueueOnceRow : OpenClaim := { program := "ytloccbmiojhabaa", sum := "f2849ae067c4dbe5580d60d235d3520aa0aa2a8929c3d20151e5180502565752", func := "workflow/workflowlaw40.TaskqueueOnce", spec := "taskqueueOnce", unfollowed := true, recurses := true, apart := false }
def TaskqueueOnceSaid : Prop := taskqueueOnceRow.holds Try.pinned (OpenSpec.ofChange taskqueueOnceSpec)

/-- ITS FALSE NEIGHBOUR: 'it returns false'. Refute it at one input. -/
def taskqueueOnceWrong : ChangeSpec := { name := "taskqueueOnce", fn := fun _ => fun
  | [d] => { results := [.lit (.bool false)], args := [d] }
  | _ => none }
def TaskqueueOnceWrongFalsely : Prop := taskqueueOnceRow.holds Try.pinned (OpenSpec.ofChange taskqueueOnceWrong)

/- THE SECOND FORM. 'bulk': how many values and letters a reading holds, each counted each time it is reached (what is shared counts as often as it is met; a slice's spare places count too). A statement '..UptoSaid' is the law's where the arguments, and the package variables that the reading takes, are together of bulk at most 1048576: NARROWER than '..Said'. Prove '..Said' where nothing that the law and all that it calls make is longer than what came in: it says more and counts as full. Else prove '..UptoSaid'. A law counts once. -/
mutual
def uptoBulk {H : Type} : DataW H → Nat
  | .lit (.string bytes) => bytes.length + 1
  | .lit _ => 1
  | .nil => 1
  | .ptr d => uptoBulk d + 1
  | .slice elems spare => uptoBulkAll elems + uptoBulkAll spare + 1
  | .agg parts => uptoBulkAll parts + 1
  | .iface _ d => uptoBulk d + 1
  | .map entries => uptoBulkEntries entries + 1
  | .held _ => 1
def uptoBulkAll {H : Type} : List (DataW H) → Nat
  | [] => 0
  | d :: r => uptoBulk d + uptoBulkAll r
def uptoBulkEntries {H : Type} : List (Lit × DataW H) → Nat
  | [] => 0
  | x :: r => uptoBulkEntry x + uptoBulkEntries r
def uptoBulkEntry {H : Type} : Lit × DataW H → Nat
  | (.string bytes, d) => bytes.length + uptoBulk d + 1
  | (_, d) => uptoBulk d + 1
 end
def uptoSmall : (H : Type) → List (DataW H) → Bool := fun _ ds => decide (uptoBulkAll ds ≤ 1048576)
def OpenSpec.upto (s : _root_.Go.ChangeSpec) : _root_.Go.OpenSpec := { _root_.Go.OpenSpec.ofChange s with cond := some uptoSmall }

/-- 'workflowlaw40.TaskqueueAdd', WHERE WHAT IT READS IS OF BULK AT MOST 1048576: true; the input reads as it did. -/
def taskqueueAddUptoRow : OpenClaim := { program := "ytloccbmiojhabaa", sum := "f2849ae067c4dbe5580d60d235d3520aa0aa2a8929c3d20151e5180502565752", func := "workflow/workflowlaw40.TaskqueueAdd", spec := "taskqueueAdd", unfollowed := true, recurses := true, apart := false, narrowed := true }
def TaskqueueAddUptoSaid : Prop := taskqueueAddUptoRow.holds Try.pinned (OpenSpec.upto taskqueueAddSpec)

/-- 'workflowlaw40.TaskqueuePoll', WHERE WHAT IT READS IS OF BULK AT MOST 1048576: true; the input reads as it did. -/
def taskqueuePollUptoRow : OpenClaim := { program := "ytloccbmiojhabaa", sum := "f2849ae067c4dbe5580d60d235d3520aa0aa2a8929c3d20151e5180502565752", func := "workflow/workflowlaw40.TaskqueuePoll", spec := "taskqueuePoll", unfollowed := true, recurses := true, apart := false, narrowed := true }
def TaskqueuePollUptoSaid : Prop := taskqueuePollUptoRow.holds Try.pinned (OpenSpec.upto taskqueuePollSpec)

/-- 'workflowlaw40.TaskqueueTokens', WHERE WHAT IT READS IS OF BULK AT MOST 1048576: true; the input reads as it did. -/
def taskqueueTokensUptoRow : OpenClaim := { program := "ytloccbmiojhabaa", sum := "f2849ae067c4dbe5580d60d235d3520aa0aa2a8929c3d20151e5180502565752", func := "workflow/workflowlaw40.TaskqueueTokens", spec := "taskqueueTokens", unfollowed := true, recurses := true, apart := false, narrowed := true }
def TaskqueueTokensUptoSaid : Prop := taskqueueTokensUptoRow.holds Try.pinned (OpenSpec.upto taskqueueTokensSpec)

/-- 'workflowlaw40.TaskqueueOnce', WHERE WHAT IT READS IS OF BULK AT MOST 1048576: true; the input reads as it did. -/
def taskqueueOnceUptoRow : OpenClaim := { program := "ytloccbmiojhabaa", sum := "f2849ae067c4dbe5580d60d235d3520aa0aa2a8929c3d20151e5180502565752", func := "workflow/workflowlaw40.TaskqueueOnce", spec := "taskqueueOnce", unfollowed := true, recurses := true, apart := false, narrowed := true }
def TaskqueueOnceUptoSaid : Prop := taskqueueOnceUptoRow.holds Try.pinned (OpenSpec.upto taskqueueOnceSpec)

end Rows
end Go.Proofs.Ytloccbmiojhabaa
