/-
  NARROWER THAN 'FOR EVERY INPUT', by the rows' own cells (each row's printed sentence says how): ValueOrders: loops · ValueTotal: loops · ValueEncodes: loops · ValueMeasures: loops · ValueBuilds: loops · ValueRoundTrip: loops · ValueMaps: loops.
  DERIVED. THE GIVEN ROWS OF THIS SEAT. 8 by the template 'for every input the law returns true; each argument reads behind the call as it read before'; 0 by the template 'total and deterministic' (their statements: YtdnpnokplfemfaaTotals.lean).
  GIVEN WITH THE SEED: the statements are not yours to turn. If you find one false, say at which input.
  Laid BY PROGRAM, IN A SANDBOX (cutbox-rows.mjs): the forced cells as the released guide's own fill.sh prints them over the translation 8a2a2d9a7e7561ad… (all of the seat's roots in one cut). By AI agents, Wed Nov 11 2026. No macro, syntax, notation, axiom, sorry.
-/
import Derived.Test.YtdnpnokplfemfaaChecked
import GoSem.Claim
import GoSem.ClaimJoined
import GoSem.ClaimMapViews
import Derived.JoinedTies
import Derived.KernelRfl
namespace Go.Proofs.Ytdnpnokplfemfaa
/- THE CELL 'sum', in the pinned program and in every row, IS THE sha256 OF THE DUMP (.gsa) THAT YtdnpnokplfemfaaProg.lean LOADS. Nothing in Lean hashes anything: it is a label: what it is worth is what the hold of that sum in a sandbox is worth. -/
noncomputable def Try.pinned : Pinned := { name := "ytdnpnokplfemfaa", sum := "8a2a2d9a7e7561ada0a1f443a5dca27578d5667149517f3552f2cd15aa2a0232", checked := Try.checked }
namespace Rows
def none {H : Type} : Left H := { results := [], args := [] }

/-- 'workflowlaw02.ValueOrders': WHATEVER THE INPUT: true; the input reads as it did. -/
def valueOrdersSpec : ChangeSpec := { name := "valueOrders", fn := fun _ => fun
  | [d1, d2] => { results := [.lit (.bool true)], args := [d1, d2] }
  | _ => none }
def valueOrdersRow : OpenClaim := { program := "ytdnpnokplfemfaa", sum := "8a2a2d9a7e7561ada0a1f443a5dca27578d5667149517f3552f2cd15aa2a0232", func := "workflow/workflowlaw02.ValueOrders", spec := "valueOrders", inPlace := ["internal/bytealg.abigen_runtime_cmpstring"], unfollowed := true, recurses := true, loops := true, apart := false }
def ValueOrdersSaid : Prop := valueOrdersRow.holds Try.pinned (OpenSpec.ofChange valueOrdersSpec)

/-- ITS FALSE NEIGHBOUR: 'it returns false'. Refute it at one input. -/
def valueOrdersWrong : ChangeSpec := { name := "valueOrders", fn := fun _ => fun
  | [d1, d2] => { results := [.lit (.bool false)], args := [d1, d2] }
  | _ => none }
def ValueOrdersWrongFalsely : Prop := valueOrdersRow.holds Try.pinned (OpenSpec.ofChange valueOrdersWrong)

/-- 'workflowlaw02.ValueTotal': WHATEVER THE INPUT: true; the input reads as it did. -/
def valueTotalSpec : ChangeSpec := { name := "valueTotal", fn := fun _ => fun
  | [d1, d2, d3] => { results := [.lit (.bool true)], args := [d1, d2, d3] }
  | _ => none }
def valueTotalRow : OpenClaim := { program := "ytdnpnokplfemfaa", sum := "8a2a2d9a7e7561ada0a1f443a5dca27578d5667149517f3552f2cd15aa2a0232", func := "workflow/workflowlaw02.ValueTotal", spec := "valueTotal", inPlace := ["internal/bytealg.abigen_runtime_cmpstring"], unfollowed := true, recurses := true, loops := true, apart := false }
def ValueTotalSaid : Prop := valueTotalRow.holds Try.pinned (OpenSpec.ofChange valueTotalSpec)

/-- ITS FALSE NEIGHBOUR: 'it returns false'. Refute it at one input. -/
def valueTotalWrong : ChangeSpec := { name := "valueTotal", fn := fun _ => fun
  | [d1, d2, d3] => { results := [.lit (.bool false)], args := [d1, d2, d3] }
  | _ => none }
def ValueTotalWrongFalsely : Prop := valueTotalRow.holds Try.pinned (OpenSpec.ofChange valueTotalWrong)

/-- 'workflowlaw02.ValueEncodes': WHATEVER THE INPUT: true; the input reads as it did. -/
def valueEncodesSpec : ChangeSpec := { name := "valueEncodes", fn := fun _ => fun
  | [d1, d2] => { results := [.lit (.bool true)], args := [d1, d2] }
  | _ => none }
def valueEncodesRow : OpenClaim := { program := "ytdnpnokplfemfaa", sum := "8a2a2d9a7e7561ada0a1f443a5dca27578d5667149517f3552f2cd15aa2a0232", func := "workflow/workflowlaw02.ValueEncodes", spec := "valueEncodes", inPlace := ["internal/bytealg.abigen_runtime_cmpstring"], unfollowed := true, recurses := true, loops := true, apart := false }
def ValueEncodesSaid : Prop := valueEncodesRow.holds Try.pinned (OpenSpec.ofChange valueEncodesSpec)

/-- ITS FALSE NEIGHBOUR: 'it returns false'. Refute it at one input. -/
def valueEncodesWrong : ChangeSpec := { name := "valueEncodes", fn := fun _ => fun
  | [d1, d2] => { results := [.lit (.bool false)], args := [d1, d2] }
  | _ => none }
def ValueEncodesWrongFalsely : Prop := valueEncodesRow.holds Try.pinned (OpenSpec.ofChange valueEncodesWrong)

/-- 'workflowlaw02.ValueMeasures': WHATEVER THE INPUT: true; the input reads as it did. -/
def valueMeasuresSpec : ChangeSpec := { name := "valueMeasures", fn := fun _ => fun
  | [d1, d2] => { results := [.lit (.bool true)], args := [d1, d2] }
  | _ => none }
def valueMeasuresRow : OpenClaim := { program := "ytdnpnokplfemfaa", sum := "8a2a2d9a7e7561ada0a1f443a5dca27578d5667149517f3552f2cd15aa2a0232", func := "workflow/workflowlaw02.ValueMeasures", spec := "valueMeasures", inPlace := ["internal/bytealg.abigen_runtime_cmpstring"], unfollowed := true, recurses := true, loops := true, apart := false }
def ValueMeasuresSaid : Prop := valueMeasuresRow.holds Try.pinned (OpenSpec.ofChange valueMeasuresSpec)

/-- ITS FALSE NEIGHBOUR: 'it returns false'. Refute it at one input. -/
def valueMeasuresWrong : ChangeSpec := { name := "valueMeasures", fn := fun _ => fun
  | [d1, d2] => { results := [.lit (.bool false)], args := [d1, d2] }
  | _ => none }
def ValueMeasuresWrongFalsely : Prop := valueMeasuresRow.holds Try.pinned (OpenSpec.ofChange valueMeasuresWrong)

/-- 'workflowlaw02.ValueBuilds': WHATEVER THE INPUT: true; the input reads as it did. -/
def valueBuildsSpec : ChangeSpec := { name := "valueBuilds", fn := fun _ => fun
  | [d1, d2, d3] => { results := [.lit (.bool true)], args := [d1, d2, d3] }
  | _ => none }
def valueBuildsRow : OpenClaim := { program := "ytdnpnokplfemfaa", sum := "8a2a2d9a7e7561ada0a1f443a5dca27578d5667149517f3552f2cd15aa2a0232", func := "workflow/workflowlaw02.ValueBuilds", spec := "valueBuilds", inPlace := ["internal/bytealg.abigen_runtime_cmpstring"], unfollowed := true, recurses := true, loops := true, apart := false }
def ValueBuildsSaid : Prop := valueBuildsRow.holds Try.pinned (OpenSpec.ofChange valueBuildsSpec)

/-- ITS FALSE NEIGHBOUR: 'it returns false'. Refute it at one input. -/
def valueBuildsWrong : ChangeSpec := { name := "valueBuilds", fn := fun _ => fun
  | [d1, d2, d3] => { results := [.lit (.bool false)], args := [d1, d2, d3] }
  | _ => none }
def ValueBuildsWrongFalsely : Prop := valueBuildsRow.holds Try.pinned (OpenSpec.ofChange valueBuildsWrong)

/-- 'workflowlaw02.ValueDecodes': WHATEVER THE INPUT: true; the input reads as it did. -/
def valueDecodesSpec : ChangeSpec := { name := "valueDecodes", fn := fun _ => fun
  | [d] => { results := [.lit (.bool true)], args := [d] }
  | _ => none }
def valueDecodesRow : OpenClaim := { program := "ytdnpnokplfemfaa", sum := "8a2a2d9a7e7561ada0a1f443a5dca27578d5667149517f3552f2cd15aa2a0232", func := "workflow/workflowlaw02.ValueDecodes", spec := "valueDecodes", inPlace := ["internal/bytealg.abigen_runtime_cmpstring"], unfollowed := true, recurses := true, apart := false }
def ValueDecodesSaid : Prop := valueDecodesRow.holds Try.pinned (OpenSpec.ofChange valueDecodesSpec)

/-- ITS FALSE NEIGHBOUR: 'it returns false'. Refute it at one input. -/
def valueDecodesWrong : ChangeSpec := { name := "valueDecodes", fn := fun _ => fun
  | [d] => { results := [.lit (.bool false)], args := [d] }
  | _ => none }
def ValueDecodesWrongFalsely : Prop := valueDecodesRow.holds Try.pinned (OpenSpec.ofChange valueDecodesWrong)

/-- 'workflowlaw02.ValueRoundTrip': WHATEVER THE INPUT: true; the input reads as it did. -/
def valueRoundTripSpec : ChangeSpec := { name := "valueRoundTrip", fn := fun _ => fun
  | [d1, d2] => { results := [.lit (.bool true)], args := [d1, d2] }
  | _ => none }
def valueRoundTripRow : OpenClaim := { program := "ytdnpnokplfemfaa", sum := "8a2a2d9a7e7561ada0a1f443a5dca27578d5667149517f3552f2cd15aa2a0232", func := "workflow/workflowlaw02.ValueRoundTrip", spec := "valueRoundTrip", inPlace := ["internal/bytealg.abigen_runtime_cmpstring"], unfollowed := true, recurses := true, loops := true, apart := false }
def ValueRoundTripSaid : Prop := valueRoundTripRow.holds Try.pinned (OpenSpec.ofChange valueRoundTripSpec)

/-- ITS FALSE NEIGHBOUR: 'it returns false'. Refute it at one input. -/
def valueRoundTripWrong : ChangeSpec := { name := "valueRoundTrip", fn := fun _ => fun
  | [d1, d2] => { results := [.lit (.bool false)], args := [d1, d2] }
  | _ => none }
def ValueRoundTripWrongFalsely : Prop := valueRoundTripRow.holds Try.pinned (OpenSpec.ofChange valueRoundTripWrong)

/-- 'workflowlaw02.ValueMaps': WHATEVER THE INPUT: true; the input reads as it did. -/
def valueMapsSpec : ChangeSpec := { name := "valueMaps", fn := fun _ => fun
  | [d1, d2, d3] => { results := [.lit (.bool true)], args := [d1, d2, d3] }
  | _ => none }
def valueMapsRow : OpenClaim := { program := "ytdnpnokplfemfaa", sum := "8a2a2d9a7e7561ada0a1f443a5dca27578d5667149517f3552f2cd15aa2a0232", func := "workflow/workflowlaw02.ValueMaps", spec := "valueMaps", inPlace := ["internal/bytealg.abigen_runtime_cmpstring", "slices.overlaps[string]", "slices.overlaps[workflow/api.Value]"], unfollowed := true, recurses := true, loops := true, apart := false }
def ValueMapsSaid : Prop := valueMapsRow.holds Try.pinned (OpenSpec.ofChange valueMapsSpec)

/-- ITS FALSE NEIGHBOUR: 'it returns false'. Refute it at one input. -/
def valueMapsWrong : ChangeSpec := { name := "valueMaps", fn := fun _ => fun
  | [d1, d2, d3] => { results := [.lit (.bool false)], args := [d1, d2, d3] }
  | _ => none }
def ValueMapsWrongFalsely : Prop := valueMapsRow.holds Try.pinned (OpenSpec.ofChange valueMapsWrong)

/- THE SECOND FORM. 'bulk': how many values and letters a reading holds, each counted each time it is reached (what is shared counts as often as it is met; a slice's spare places count too). A statement '..UptoSaid' is the law's where the arguments, and the package variables that the reading takes, are together of bulk at most 1048576: NARROWER than '..Said'. Prove '..Said' where nothing that the law and all that it calls make is longer than what came in: it says more and counts as full. Else prove '..UptoSaid'. A law counts once. -/
mutual
def uptoBulk {H : Type} : DataW H → Nat
  | .lit (.string bytes) => bytes.length + 1
  | .lit _ => 1
  | .nil => 1
  | .ptr d => uptoBulk d + 1
  | .slice elems spare => uptoBulkAll elems + uptoBulkAll spare + 1
  | .agg parts => uptoBulkAll parts + 1
  | .iface _ d => uptoBulk d + 1
  | .map entries => uptoBulkEntries entries + 1
  | .held _ => 1
def uptoBulkAll {H : Type} : List (DataW H) → Nat
  | [] => 0
  | d :: r => uptoBulk d + uptoBulkAll r
def uptoBulkEntries {H : Type} : List (Lit × DataW H) → Nat
  | [] => 0
  | x :: r => uptoBulkEntry x + uptoBulkEntries r
def uptoBulkEntry {H : Type} : Lit × DataW H → Nat
  | (.string bytes, d) => bytes.length + uptoBulk d + 1
  | (_, d) => uptoBulk d + 1
 end
def uptoSmall : (H : Type) → List (DataW H) → Bool := fun _ ds => decide (uptoBulkAll ds ≤ 1048576)
def OpenSpec.upto (s : _root_.Go.ChangeSpec) : _root_.Go.OpenSpec := { _root_.Go.OpenSpec.ofChange s with cond := some uptoSmall }

/-- 'workflowlaw02.ValueOrders', WHERE WHAT IT READS IS OF BULK AT MOST 1048576: true; the input reads as it did. -/
def valueOrdersUptoRow : OpenClaim := { program := "ytdnpnokplfemfaa", sum := "8a2a2d9a7e7561ada0a1f443a5dca27578d5667149517f3552f2cd15aa2a0232", func := "workflow/workflowlaw02.ValueOrders", spec := "valueOrders", inPlace := ["internal/bytealg.abigen_runtime_cmpstring"], unfollowed := true, recurses := true, loops := true, apart := false, narrowed := true }
def ValueOrdersUptoSaid : Prop := valueOrdersUptoRow.holds Try.pinned (OpenSpec.upto valueOrdersSpec)

/-- 'workflowlaw02.ValueTotal', WHERE WHAT IT READS IS OF BULK AT MOST 1048576: true; the input reads as it did. -/
def valueTotalUptoRow : OpenClaim := { program := "ytdnpnokplfemfaa", sum := "8a2a2d9a7e7561ada0a1f443a5dca27578d5667149517f3552f2cd15aa2a0232", func := "workflow/workflowlaw02.ValueTotal", spec := "valueTotal", inPlace := ["internal/bytealg.abigen_runtime_cmpstring"], unfollowed := true, recurses := true, loops := true, apart := false, narrowed := true }
def ValueTotalUptoSaid : Prop := valueTotalUptoRow.holds Try.pinned (OpenSpec.upto valueTotalSpec)

/-- 'workflowlaw02.ValueEncodes', WHERE WHAT IT READS IS OF BULK AT MOST 1048576: true; the input reads as it did. -/
def valueEncodesUptoRow : OpenClaim := { program := "ytdnpnokplfemfaa", sum := "8a2a2d9a7e7561ada0a1f443a5dca27578d5667149517f3552f2cd15aa2a0232", func := "workflow/workflowlaw02.ValueEncodes", spec := "valueEncodes", inPlace := ["internal/bytealg.abigen_runtime_cmpstring"], unfollowed := true, recurses := true, loops := true, apart := false, narrowed := true }
def ValueEncodesUptoSaid : Prop := valueEncodesUptoRow.holds Try.pinned (OpenSpec.upto valueEncodesSpec)

/-- 'workflowlaw02.ValueMeasures', WHERE WHAT IT READS IS OF BULK AT MOST 1048576: true; the input reads as it did. -/
def valueMeasuresUptoRow : OpenClaim := { program := "ytdnpnokplfemfaa", sum := "8a2a2d9a7e7561ada0a1f443a5dca27578d5667149517f3552f2cd15aa2a0232", func := "workflow/workflowlaw02.ValueMeasures", spec := "valueMeasures", inPlace := ["internal/bytealg.abigen_runtime_cmpstring"], unfollowed := true, recurses := true, loops := true, apart := false, narrowed := true }
def ValueMeasuresUptoSaid : Prop := valueMeasuresUptoRow.holds Try.pinned (OpenSpec.upto valueMeasuresSpec)

/-- 'workflowlaw02.ValueBuilds', WHERE WHAT IT READS IS OF BULK AT MOST 1048576: true; the input reads as it did. -/
def valueBuildsUptoRow : OpenClaim := { program := "ytdnpnokplfemfaa", sum := "8a2a2d9a7e7561ada0a1f443a5dca27578d5667149517f3552f2cd15aa2a0232", func := "workflow/workflowlaw02.ValueBuilds", spec := "valueBuilds", inPlace := ["internal/bytealg.abigen_runtime_cmpstring"], unfollowed := true, recurses := true, loops := true, apart := false, narrowed := true }
def ValueBuildsUptoSaid : Prop := valueBuildsUptoRow.holds Try.pinned (OpenSpec.upto valueBuildsSpec)

/-- 'workflowlaw02.ValueDecodes', WHERE WHAT IT READS IS OF BULK AT MOST 1048576: true; the input reads as it did. -/
def valueDecodesUptoRow : OpenClaim := { program := "ytdnpnokplfemfaa", sum := "8a2a2d9a7e7561ada0a1f443a5dca27578d5667149517f3552f2cd15aa2a0232", func := "workflow/workflowlaw02.ValueDecodes", spec := "valueDecodes", inPlace := ["internal/bytealg.abigen_runtime_cmpstring"], unfollowed := true, recurses := true, apart := false, narrowed := true }
def ValueDecodesUptoSaid : Prop := valueDecodesUptoRow.holds Try.pinned (OpenSpec.upto valueDecodesSpec)

/-- 'workflowlaw02.ValueRoundTrip', WHERE WHAT IT READS IS OF BULK AT MOST 1048576: true; the input reads as it did. -/
def valueRoundTripUptoRow : OpenClaim := { program := "ytdnpnokplfemfaa", sum := "8a2a2d9a7e7561ada0a1f443a5dca27578d5667149517f3552f2cd15aa2a0232", func := "workflow/workflowlaw02.ValueRoundTrip", spec := "valueRoundTrip", inPlace := ["internal/bytealg.abigen_runtime_cmpstring"], unfollowed := true, recurses := true, loops := true, apart := false, narrowed := true }
def ValueRoundTripUptoSaid : Prop := valueRoundTripUptoRow.holds Try.pinned (OpenSpec.upto valueRoundTripSpec)

/-- 'workflowlaw02.ValueMaps', WHERE WHAT IT READS IS OF BULK AT MOST 1048576: true; the input reads as it did. -/
def valueMapsUptoRow : OpenClaim := { program := "ytdnpnokplfemfaa", sum := "8a2a2d9a7e7561ada0a1f443a5dca27578d5667149517f3552f2cd15aa2a0232", func := "workflow/workflowlaw02.ValueMaps", spec := "valueMaps", inPlace := ["internal/bytealg.abigen_runtime_cmpstring", "slices.overlaps[string]", "slices.overlaps[workflow/api.Value]"], unfollowed := true, recurses := true, loops := true, apart := false, narrowed := true }
def ValueMapsUptoSaid : Prop := valueMapsUptoRow.holds Try.pinned (OpenSpec.upto valueMapsSpec)

end Rows
end Go.Proofs.Ytdnpnokplfemfaa
