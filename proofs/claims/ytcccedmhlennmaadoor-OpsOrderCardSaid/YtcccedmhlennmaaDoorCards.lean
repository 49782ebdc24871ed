/-
  DERIVED. GIVEN WITH THE SEED: THE CARDS: each row of YtcccedmhlennmaaDoorRows.lean that lists a variable, with what it lists TIED to the program's text (the seventh form; the later family's looks); each row that meets fmt, with fmt's text TOLD by the authors' own Lean function (tested against real Go, not proved from fmt's source: count such statements apart). THE CARD IS WHAT COUNTS. Prove the row's statement (the work); the ties are given (YtcccedmhlennmaaDoorTie.lean); close each card by the builder's one call (the guide's Derived/Test/ToyasCard.lean, 'card_holds'). Laid BY PROGRAM, IN A SANDBOX (cutbox-door.mjs). By AI agents, Wed Nov 11 2026. No macro, syntax, notation, axiom, sorry.
-/
import Derived.Test.YtcccedmhlennmaaDoorRows
import GoSem.ClaimSeven
namespace Go.Proofs.YtcccedmhlennmaaDoor
namespace Rows

/-- THE TIED CARD OF 'workflowlaw12.OpsPure'. -/
def opsPureCard : Claim7 := { stood := { row := opsPureRow, standIns := [], harness := (true, "9758225bb631bab4899a7de8e5263a9436be4926c487df4bf815f0e22a7b9075"), looks := true }, kinds := [], alts := [], laidByText := true, laidKinds := [.data, .data, .data, .sentinel, .sentinel], laidTests := true, laidLooks := .later }
def OpsPureCardSaid : Prop := Claim7.holds Tryd.pinned (.plain (OpenSpec.ofChange opsPureSpec)) opsPureCard

/-- THE TIED CARD OF 'workflowlaw12.OpsArithmetic'. -/
def opsArithmeticCard : Claim7 := { stood := { row := opsArithmeticRow, standIns := [], harness := (true, "9758225bb631bab4899a7de8e5263a9436be4926c487df4bf815f0e22a7b9075"), looks := true }, kinds := [], alts := [], laidByText := true, laidKinds := [.data, .data, .data, .sentinel, .sentinel], laidTests := true, laidLooks := .later }
def OpsArithmeticCardSaid : Prop := Claim7.holds Tryd.pinned (.plain (OpenSpec.ofChange opsArithmeticSpec)) opsArithmeticCard

/-- THE TIED CARD OF 'workflowlaw12.OpsOrder'. -/
def opsOrderCard : Claim7 := { stood := { row := opsOrderRow, standIns := [], harness := (true, "9758225bb631bab4899a7de8e5263a9436be4926c487df4bf815f0e22a7b9075"), looks := true }, kinds := [], alts := [], laidByText := true, laidKinds := [.data, .data, .data, .sentinel, .sentinel], laidTests := true, laidLooks := .later }
def OpsOrderCardSaid : Prop := Claim7.holds Tryd.pinned (.plain (OpenSpec.ofChange opsOrderSpec)) opsOrderCard

/-- THE TIED CARD OF 'workflowlaw12.OpsMaps'. -/
def opsMapsCard : Claim7 := { stood := { row := opsMapsRow, standIns := [], harness := (true, "9758225bb631bab4899a7de8e5263a9436be4926c487df4bf815f0e22a7b9075"), looks := true }, kinds := [], alts := [], laidByText := true, laidKinds := [.data, .data, .data, .sentinel, .sentinel], laidTests := true, laidLooks := .later }
def OpsMapsCardSaid : Prop := Claim7.holds Tryd.pinned (.plain (OpenSpec.ofChange opsMapsSpec)) opsMapsCard

/-- THE SECOND FORM's CARD OF 'workflowlaw12.OpsPure'. -/
def opsPureUptoCard : Claim7 := { stood := { row := opsPureUptoRow, standIns := [], harness := (true, "9758225bb631bab4899a7de8e5263a9436be4926c487df4bf815f0e22a7b9075"), looks := true }, kinds := [], alts := [], laidByText := true, laidKinds := [.data, .data, .data, .sentinel, .sentinel], laidTests := true, laidLooks := .later }
def OpsPureUptoCardSaid : Prop := Claim7.holds Tryd.pinned (.plain (OpenSpec.upto opsPureSpec)) opsPureUptoCard

/-- THE SECOND FORM's CARD OF 'workflowlaw12.OpsArithmetic'. -/
def opsArithmeticUptoCard : Claim7 := { stood := { row := opsArithmeticUptoRow, standIns := [], harness := (true, "9758225bb631bab4899a7de8e5263a9436be4926c487df4bf815f0e22a7b9075"), looks := true }, kinds := [], alts := [], laidByText := true, laidKinds := [.data, .data, .data, .sentinel, .sentinel], laidTests := true, laidLooks := .later }
def OpsArithmeticUptoCardSaid : Prop := Claim7.holds Tryd.pinned (.plain (OpenSpec.upto opsArithmeticSpec)) opsArithmeticUptoCard

/-- THE SECOND FORM's CARD OF 'workflowlaw12.OpsOrder'. -/
def opsOrderUptoCard : Claim7 := { stood := { row := opsOrderUptoRow, standIns := [], harness := (true, "9758225bb631bab4899a7de8e5263a9436be4926c487df4bf815f0e22a7b9075"), looks := true }, kinds := [], alts := [], laidByText := true, laidKinds := [.data, .data, .data, .sentinel, .sentinel], laidTests := true, laidLooks := .later }
def OpsOrderUptoCardSaid : Prop := Claim7.holds Tryd.pinned (.plain (OpenSpec.upto opsOrderSpec)) opsOrderUptoCard

/-- THE SECOND FORM's CARD OF 'workflowlaw12.OpsMaps'. -/
def opsMapsUptoCard : Claim7 := { stood := { row := opsMapsUptoRow, standIns := [], harness := (true, "9758225bb631bab4899a7de8e5263a9436be4926c487df4bf815f0e22a7b9075"), looks := true }, kinds := [], alts := [], laidByText := true, laidKinds := [.data, .data, .data, .sentinel, .sentinel], laidTests := true, laidLooks := .later }
def OpsMapsUptoCardSaid : Prop := Claim7.holds Tryd.pinned (.plain (OpenSpec.upto opsMapsSpec)) opsMapsUptoCard
end Rows
end Go.Proofs.YtcccedmhlennmaaDoor
