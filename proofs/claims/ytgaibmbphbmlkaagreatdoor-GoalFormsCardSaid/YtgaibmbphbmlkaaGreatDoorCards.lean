/-
  DERIVED. GIVEN WITH THE SEED: THE CARDS: each row of YtgaibmbphbmlkaaGreatDoorRows.lean that lists a variable, with what it lists TIED to the program's text (the seventh form; the later family's looks); each row that meets fmt, with fmt's text TOLD by the authors' own Lean function (tested against real Go, not proved from fmt's source: count such statements apart). THE CARD IS WHAT COUNTS. Prove the row's statement (the work); the ties are given (YtgaibmbphbmlkaaGreatDoorTie.lean); close each card by the builder's one call (the guide's Derived/Test/ToyasCard.lean, 'card_holds'). Laid BY PROGRAM, IN A SANDBOX (cutbox-door.mjs). By AI agents, Wed Nov 11 2026. No macro, syntax, notation, axiom, sorry.
-/
import Derived.Test.YtgaibmbphbmlkaaGreatDoorRows
import GoSem.ClaimSeven
namespace Go.Proofs.YtgaibmbphbmlkaaGreatDoor
namespace Rows

/-- THE TIED CARD OF 'cardamomlaw11.ViewForms'. -/
def viewFormsCard : Claim7 := { stood := { row := viewFormsRow, standIns := [], harness := (true, "8a2b312b9e45c959a6a549732ac9a85a2019d1ab4aa1c528880fdf14fa5df6c6"), looks := true }, kinds := [], alts := [], laidByText := true, laidKinds := [.data, .handle, .pinned], laidTests := true, laidLooks := .later }
def ViewFormsCardSaid : Prop := Claim7.holds Tryz.pinned (.plain (OpenSpec.ofChange viewFormsSpec)) viewFormsCard

/-- THE TIED CARD OF 'cardamomlaw14.DropForms'. -/
def dropFormsCard : Claim7 := { stood := { row := dropFormsRow, standIns := [], harness := (true, "8a2b312b9e45c959a6a549732ac9a85a2019d1ab4aa1c528880fdf14fa5df6c6"), looks := true }, kinds := [], alts := [], laidByText := true, laidKinds := [.data, .handle, .pinned], laidTests := true, laidLooks := .later }
def DropFormsCardSaid : Prop := Claim7.holds Tryz.pinned (.plain (OpenSpec.ofChange dropFormsSpec)) dropFormsCard

/-- THE TIED CARD OF 'cardamomlaw26.GoalForms'. -/
def goalFormsCard : Claim7 := { stood := { row := goalFormsRow, standIns := [], harness := (true, "8a2b312b9e45c959a6a549732ac9a85a2019d1ab4aa1c528880fdf14fa5df6c6"), looks := true }, kinds := [], alts := [], laidByText := true, laidKinds := [.data, .handle, .pinned], laidTests := true, laidLooks := .later }
def GoalFormsCardSaid : Prop := Claim7.holds Tryz.pinned (.plain (OpenSpec.ofChange goalFormsSpec)) goalFormsCard

/-- THE TIED CARD OF 'cardamomlaw12.ReplForms'. -/
def replFormsCard : Claim7 := { stood := { row := replFormsRow, standIns := [], harness := (true, "8a2b312b9e45c959a6a549732ac9a85a2019d1ab4aa1c528880fdf14fa5df6c6"), looks := true }, kinds := [], alts := [], laidByText := true, laidKinds := [.data, .handle, .pinned], laidTests := true, laidLooks := .later }
def ReplFormsCardSaid : Prop := Claim7.holds Tryz.pinned (.plain (OpenSpec.ofChange replFormsSpec)) replFormsCard

/-- THE TIED CARD OF 'cardamomlaw25.MeshForms'. -/
def meshFormsCard : Claim7 := { stood := { row := meshFormsRow, standIns := [], harness := (true, "8a2b312b9e45c959a6a549732ac9a85a2019d1ab4aa1c528880fdf14fa5df6c6"), looks := true }, kinds := [], alts := [], laidByText := true, laidKinds := [.data, .handle, .pinned], laidTests := true, laidLooks := .later }
def MeshFormsCardSaid : Prop := Claim7.holds Tryz.pinned (.plain (OpenSpec.ofChange meshFormsSpec)) meshFormsCard

/-- THE SECOND FORM's CARD OF 'cardamomlaw11.ViewForms'. -/
def viewFormsUptoCard : Claim7 := { stood := { row := viewFormsUptoRow, standIns := [], harness := (true, "8a2b312b9e45c959a6a549732ac9a85a2019d1ab4aa1c528880fdf14fa5df6c6"), looks := true }, kinds := [], alts := [], laidByText := true, laidKinds := [.data, .handle, .pinned], laidTests := true, laidLooks := .later }
def ViewFormsUptoCardSaid : Prop := Claim7.holds Tryz.pinned (.plain (OpenSpec.upto viewFormsSpec)) viewFormsUptoCard

/-- THE SECOND FORM's CARD OF 'cardamomlaw14.DropForms'. -/
def dropFormsUptoCard : Claim7 := { stood := { row := dropFormsUptoRow, standIns := [], harness := (true, "8a2b312b9e45c959a6a549732ac9a85a2019d1ab4aa1c528880fdf14fa5df6c6"), looks := true }, kinds := [], alts := [], laidByText := true, laidKinds := [.data, .handle, .pinned], laidTests := true, laidLooks := .later }
def DropFormsUptoCardSaid : Prop := Claim7.holds Tryz.pinned (.plain (OpenSpec.upto dropFormsSpec)) dropFormsUptoCard

/-- THE SECOND FORM's CARD OF 'cardamomlaw26.GoalForms'. -/
def goalFormsUptoCard : Claim7 := { stood := { row := goalFormsUptoRow, standIns := [], harness := (true, "8a2b312b9e45c959a6a549732ac9a85a2019d1ab4aa1c528880fdf14fa5df6c6"), looks := true }, kinds := [], alts := [], laidByText := true, laidKinds := [.data, .handle, .pinned], laidTests := true, laidLooks := .later }
def GoalFormsUptoCardSaid : Prop := Claim7.holds Tryz.pinned (.plain (OpenSpec.upto goalFormsSpec)) goalFormsUptoCard

/-- THE SECOND FORM's CARD OF 'cardamomlaw12.ReplForms'. -/
def replFormsUptoCard : Claim7 := { stood := { row := replFormsUptoRow, standIns := [], harness := (true, "8a2b312b9e45c959a6a549732ac9a85a2019d1ab4aa1c528880fdf14fa5df6c6"), looks := true }, kinds := [], alts := [], laidByText := true, laidKinds := [.data, .handle, .pinned], laidTests := true, laidLooks := .later }
def ReplFormsUptoCardSaid : Prop := Claim7.holds Tryz.pinned (.plain (OpenSpec.upto replFormsSpec)) replFormsUptoCard

/-- THE SECOND FORM's CARD OF 'cardamomlaw25.MeshForms'. -/
def meshFormsUptoCard : Claim7 := { stood := { row := meshFormsUptoRow, standIns := [], harness := (true, "8a2b312b9e45c959a6a549732ac9a85a2019d1ab4aa1c528880fdf14fa5df6c6"), looks := true }, kinds := [], alts := [], laidByText := true, laidKinds := [.data, .handle, .pinned], laidTests := true, laidLooks := .later }
def MeshFormsUptoCardSaid : Prop := Claim7.holds Tryz.pinned (.plain (OpenSpec.upto meshFormsSpec)) meshFormsUptoCard
end Rows
end Go.Proofs.YtgaibmbphbmlkaaGreatDoor
