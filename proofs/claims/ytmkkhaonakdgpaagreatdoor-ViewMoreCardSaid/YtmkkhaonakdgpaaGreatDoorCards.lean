/-
  DERIVED. GIVEN WITH THE SEED: THE CARDS: each row of YtmkkhaonakdgpaaGreatDoorRows.lean that lists a variable, with what it lists TIED to the program's text (the seventh form; the later family's looks); each row that meets fmt, with fmt's text TOLD by the authors' own Lean function (tested against real Go, not proved from fmt's source: count such statements apart). THE CARD IS WHAT COUNTS. Prove the row's statement (the work); the ties are given (YtmkkhaonakdgpaaGreatDoorTie.lean); close each card by the builder's one call (the guide's Derived/Test/ToyasCard.lean, 'card_holds'). Laid BY PROGRAM, IN A SANDBOX (cutbox-door.mjs). By AI agents, Wed Nov 11 2026. No macro, syntax, notation, axiom, sorry.
-/
import Derived.Test.YtmkkhaonakdgpaaGreatDoorRows
import GoSem.ClaimSeven
namespace Go.Proofs.YtmkkhaonakdgpaaGreatDoor
namespace Rows

/-- THE TIED CARD OF 'cardamomlaw11.ViewMore'. -/
def viewMoreCard : Claim7 := { stood := { row := viewMoreRow, standIns := [], harness := (true, "b2c087a92eda0a2c4cb713bbdc7c80009163a4171b510adb1f403f3de1f2c20a"), looks := true }, kinds := [], alts := [], laidByText := true, laidKinds := [.data, .handle, .pinned], laidTests := true, laidLooks := .later }
def ViewMoreCardSaid : Prop := Claim7.holds Tryz.pinned (.plain (OpenSpec.ofChange viewMoreSpec)) viewMoreCard

/-- THE TIED CARD OF 'cardamomlaw11.ViewForms'. -/
def viewFormsCard : Claim7 := { stood := { row := viewFormsRow, standIns := [], harness := (true, "b2c087a92eda0a2c4cb713bbdc7c80009163a4171b510adb1f403f3de1f2c20a"), looks := true }, kinds := [], alts := [], laidByText := true, laidKinds := [.data, .handle, .pinned], laidTests := true, laidLooks := .later }
def ViewFormsCardSaid : Prop := Claim7.holds Tryz.pinned (.plain (OpenSpec.ofChange viewFormsSpec)) viewFormsCard

/-- THE TIED CARD OF 'cardamomlaw11.ViewAll'. -/
def viewAllCard : Claim7 := { stood := { row := viewAllRow, standIns := [], harness := (true, "b2c087a92eda0a2c4cb713bbdc7c80009163a4171b510adb1f403f3de1f2c20a"), looks := true }, kinds := [], alts := [], laidByText := true, laidKinds := [.data, .handle, .pinned], laidTests := true, laidLooks := .later }
def ViewAllCardSaid : Prop := Claim7.holds Tryz.pinned (.plain (OpenSpec.ofChange viewAllSpec)) viewAllCard

/-- THE TIED CARD OF 'cardamomlaw11.ViewEpochs'. -/
def viewEpochsCard : Claim7 := { stood := { row := viewEpochsRow, standIns := [], harness := (true, "b2c087a92eda0a2c4cb713bbdc7c80009163a4171b510adb1f403f3de1f2c20a"), looks := true }, kinds := [], alts := [], laidByText := true, laidKinds := [.data, .handle, .pinned], laidTests := true, laidLooks := .later }
def ViewEpochsCardSaid : Prop := Claim7.holds Tryz.pinned (.plain (OpenSpec.ofChange viewEpochsSpec)) viewEpochsCard

/-- THE TIED CARD OF 'cardamomlaw11.ViewOrder'. -/
def viewOrderCard : Claim7 := { stood := { row := viewOrderRow, standIns := [], harness := (true, "b2c087a92eda0a2c4cb713bbdc7c80009163a4171b510adb1f403f3de1f2c20a"), looks := true }, kinds := [], alts := [], laidByText := true, laidKinds := [.data, .handle, .pinned], laidTests := true, laidLooks := .later }
def ViewOrderCardSaid : Prop := Claim7.holds Tryz.pinned (.plain (OpenSpec.ofChange viewOrderSpec)) viewOrderCard

/-- THE TIED CARD OF 'cardamomlaw14.DropForms'. -/
def dropFormsCard : Claim7 := { stood := { row := dropFormsRow, standIns := [], harness := (true, "b2c087a92eda0a2c4cb713bbdc7c80009163a4171b510adb1f403f3de1f2c20a"), looks := true }, kinds := [], alts := [], laidByText := true, laidKinds := [.data, .handle, .pinned], laidTests := true, laidLooks := .later }
def DropFormsCardSaid : Prop := Claim7.holds Tryz.pinned (.plain (OpenSpec.ofChange dropFormsSpec)) dropFormsCard

/-- THE TIED CARD OF 'cardamomlaw12.ReplForms'. -/
def replFormsCard : Claim7 := { stood := { row := replFormsRow, standIns := [], harness := (true, "b2c087a92eda0a2c4cb713bbdc7c80009163a4171b510adb1f403f3de1f2c20a"), looks := true }, kinds := [], alts := [], laidByText := true, laidKinds := [.data, .handle, .pinned], laidTests := true, laidLooks := .later }
def ReplFormsCardSaid : Prop := Claim7.holds Tryz.pinned (.plain (OpenSpec.ofChange replFormsSpec)) replFormsCard

/-- THE TIED CARD OF 'cardamomlaw18.VputAll'. -/
def vputAllCard : Claim7 := { stood := { row := vputAllRow, standIns := [], harness := (true, "b2c087a92eda0a2c4cb713bbdc7c80009163a4171b510adb1f403f3de1f2c20a"), looks := true }, kinds := [], alts := [], laidByText := true, laidKinds := [.data, .handle, .pinned], laidTests := true, laidLooks := .later }
def VputAllCardSaid : Prop := Claim7.holds Tryz.pinned (.plain (OpenSpec.ofChange vputAllSpec)) vputAllCard

/-- THE SECOND FORM's CARD OF 'cardamomlaw11.ViewMore'. -/
def viewMoreUptoCard : Claim7 := { stood := { row := viewMoreUptoRow, standIns := [], harness := (true, "b2c087a92eda0a2c4cb713bbdc7c80009163a4171b510adb1f403f3de1f2c20a"), looks := true }, kinds := [], alts := [], laidByText := true, laidKinds := [.data, .handle, .pinned], laidTests := true, laidLooks := .later }
def ViewMoreUptoCardSaid : Prop := Claim7.holds Tryz.pinned (.plain (OpenSpec.upto viewMoreSpec)) viewMoreUptoCard

/-- THE SECOND FORM's CARD OF 'cardamomlaw11.ViewForms'. -/
def viewFormsUptoCard : Claim7 := { stood := { row := viewFormsUptoRow, standIns := [], harness := (true, "b2c087a92eda0a2c4cb713bbdc7c80009163a4171b510adb1f403f3de1f2c20a"), looks := true }, kinds := [], alts := [], laidByText := true, laidKinds := [.data, .handle, .pinned], laidTests := true, laidLooks := .later }
def ViewFormsUptoCardSaid : Prop := Claim7.holds Tryz.pinned (.plain (OpenSpec.upto viewFormsSpec)) viewFormsUptoCard

/-- THE SECOND FORM's CARD OF 'cardamomlaw11.ViewAll'. -/
def viewAllUptoCard : Claim7 := { stood := { row := viewAllUptoRow, standIns := [], harness := (true, "b2c087a92eda0a2c4cb713bbdc7c80009163a4171b510adb1f403f3de1f2c20a"), looks := true }, kinds := [], alts := [], laidByText := true, laidKinds := [.data, .handle, .pinned], laidTests := true, laidLooks := .later }
def ViewAllUptoCardSaid : Prop := Claim7.holds Tryz.pinned (.plain (OpenSpec.upto viewAllSpec)) viewAllUptoCard

/-- THE SECOND FORM's CARD OF 'cardamomlaw11.ViewEpochs'. -/
def viewEpochsUptoCard : Claim7 := { stood := { row := viewEpochsUptoRow, standIns := [], harness := (true, "b2c087a92eda0a2c4cb713bbdc7c80009163a4171b510adb1f403f3de1f2c20a"), looks := true }, kinds := [], alts := [], laidByText := true, laidKinds := [.data, .handle, .pinned], laidTests := true, laidLooks := .later }
def ViewEpochsUptoCardSaid : Prop := Claim7.holds Tryz.pinned (.plain (OpenSpec.upto viewEpochsSpec)) viewEpochsUptoCard

/-- THE SECOND FORM's CARD OF 'cardamomlaw11.ViewOrder'. -/
def viewOrderUptoCard : Claim7 := { stood := { row := viewOrderUptoRow, standIns := [], harness := (true, "b2c087a92eda0a2c4cb713bbdc7c80009163a4171b510adb1f403f3de1f2c20a"), looks := true }, kinds := [], alts := [], laidByText := true, laidKinds := [.data, .handle, .pinned], laidTests := true, laidLooks := .later }
def ViewOrderUptoCardSaid : Prop := Claim7.holds Tryz.pinned (.plain (OpenSpec.upto viewOrderSpec)) viewOrderUptoCard

/-- THE SECOND FORM's CARD OF 'cardamomlaw14.DropForms'. -/
def dropFormsUptoCard : Claim7 := { stood := { row := dropFormsUptoRow, standIns := [], harness := (true, "b2c087a92eda0a2c4cb713bbdc7c80009163a4171b510adb1f403f3de1f2c20a"), looks := true }, kinds := [], alts := [], laidByText := true, laidKinds := [.data, .handle, .pinned], laidTests := true, laidLooks := .later }
def DropFormsUptoCardSaid : Prop := Claim7.holds Tryz.pinned (.plain (OpenSpec.upto dropFormsSpec)) dropFormsUptoCard

/-- THE SECOND FORM's CARD OF 'cardamomlaw12.ReplForms'. -/
def replFormsUptoCard : Claim7 := { stood := { row := replFormsUptoRow, standIns := [], harness := (true, "b2c087a92eda0a2c4cb713bbdc7c80009163a4171b510adb1f403f3de1f2c20a"), looks := true }, kinds := [], alts := [], laidByText := true, laidKinds := [.data, .handle, .pinned], laidTests := true, laidLooks := .later }
def ReplFormsUptoCardSaid : Prop := Claim7.holds Tryz.pinned (.plain (OpenSpec.upto replFormsSpec)) replFormsUptoCard

/-- THE SECOND FORM's CARD OF 'cardamomlaw18.VputAll'. -/
def vputAllUptoCard : Claim7 := { stood := { row := vputAllUptoRow, standIns := [], harness := (true, "b2c087a92eda0a2c4cb713bbdc7c80009163a4171b510adb1f403f3de1f2c20a"), looks := true }, kinds := [], alts := [], laidByText := true, laidKinds := [.data, .handle, .pinned], laidTests := true, laidLooks := .later }
def VputAllUptoCardSaid : Prop := Claim7.holds Tryz.pinned (.plain (OpenSpec.upto vputAllSpec)) vputAllUptoCard
end Rows
end Go.Proofs.YtmkkhaonakdgpaaGreatDoor
