/-
  DERIVED. GIVEN WITH THE SEED: THE CARDS: each row of YtmkkhaonakdgpaaDoorRows.lean that lists a variable, with what it lists TIED to the program's text (the seventh form; the later family's looks); each row that meets fmt, with fmt's text TOLD by the authors' own Lean function (tested against real Go, not proved from fmt's source: count such statements apart). THE CARD IS WHAT COUNTS. Prove the row's statement (the work); the ties are given (YtmkkhaonakdgpaaDoorTie.lean); close each card by the builder's one call (the guide's Derived/Test/ToyasCard.lean, 'card_holds'). Laid BY PROGRAM, IN A SANDBOX (cutbox-door.mjs). By AI agents, Wed Nov 11 2026. No macro, syntax, notation, axiom, sorry.
-/
import Derived.Test.YtmkkhaonakdgpaaDoorRows
import GoSem.ClaimSeven
namespace Go.Proofs.YtmkkhaonakdgpaaDoor
namespace Rows

/-- THE TIED CARD OF 'cardamomlaw18.VputForms'. -/
def vputFormsCard : Claim7 := { stood := { row := vputFormsRow, standIns := [], harness := (true, "46c94e71bfe2158a639c1910a0fd1050a3e3a792169b0880b3675c05cb240603"), looks := true }, kinds := [], alts := [], laidByText := true, laidKinds := [.data, .handle, .pinned], laidTests := true, laidLooks := .later }
def VputFormsCardSaid : Prop := Claim7.holds Tryd.pinned (.plain (OpenSpec.ofChange vputFormsSpec)) vputFormsCard

/-- THE TIED CARD OF 'cardamomlaw18.VputBack'. -/
def vputBackCard : Claim7 := { stood := { row := vputBackRow, standIns := [], harness := (true, "46c94e71bfe2158a639c1910a0fd1050a3e3a792169b0880b3675c05cb240603"), looks := true }, kinds := [], alts := [], laidByText := true, laidKinds := [.data, .handle, .pinned], laidTests := true, laidLooks := .later }
def VputBackCardSaid : Prop := Claim7.holds Tryd.pinned (.plain (OpenSpec.ofChange vputBackSpec)) vputBackCard

/-- THE TIED CARD OF 'cardamomlaw18.VputApart'. -/
def vputApartCard : Claim7 := { stood := { row := vputApartRow, standIns := [], harness := (true, "46c94e71bfe2158a639c1910a0fd1050a3e3a792169b0880b3675c05cb240603"), looks := true }, kinds := [], alts := [], laidByText := true, laidKinds := [.data, .handle, .pinned], laidTests := true, laidLooks := .later }
def VputApartCardSaid : Prop := Claim7.holds Tryd.pinned (.plain (OpenSpec.ofChange vputApartSpec)) vputApartCard

/-- THE SECOND FORM's CARD OF 'cardamomlaw18.VputForms'. -/
def vputFormsUptoCard : Claim7 := { stood := { row := vputFormsUptoRow, standIns := [], harness := (true, "46c94e71bfe2158a639c1910a0fd1050a3e3a792169b0880b3675c05cb240603"), looks := true }, kinds := [], alts := [], laidByText := true, laidKinds := [.data, .handle, .pinned], laidTests := true, laidLooks := .later }
def VputFormsUptoCardSaid : Prop := Claim7.holds Tryd.pinned (.plain (OpenSpec.upto vputFormsSpec)) vputFormsUptoCard

/-- THE SECOND FORM's CARD OF 'cardamomlaw18.VputBack'. -/
def vputBackUptoCard : Claim7 := { stood := { row := vputBackUptoRow, standIns := [], harness := (true, "46c94e71bfe2158a639c1910a0fd1050a3e3a792169b0880b3675c05cb240603"), looks := true }, kinds := [], alts := [], laidByText := true, laidKinds := [.data, .handle, .pinned], laidTests := true, laidLooks := .later }
def VputBackUptoCardSaid : Prop := Claim7.holds Tryd.pinned (.plain (OpenSpec.upto vputBackSpec)) vputBackUptoCard

/-- THE SECOND FORM's CARD OF 'cardamomlaw18.VputApart'. -/
def vputApartUptoCard : Claim7 := { stood := { row := vputApartUptoRow, standIns := [], harness := (true, "46c94e71bfe2158a639c1910a0fd1050a3e3a792169b0880b3675c05cb240603"), looks := true }, kinds := [], alts := [], laidByText := true, laidKinds := [.data, .handle, .pinned], laidTests := true, laidLooks := .later }
def VputApartUptoCardSaid : Prop := Claim7.holds Tryd.pinned (.plain (OpenSpec.upto vputApartSpec)) vputApartUptoCard
end Rows
end Go.Proofs.YtmkkhaonakdgpaaDoor
