/-
  DERIVED. GIVEN WITH THE SEED: THE CARDS: each row of YtmppanboolejjaaDoorRows.lean that lists a variable, with what it lists TIED to the program's text (the seventh form; the later family's looks); each row that meets fmt, with fmt's text TOLD by the authors' own Lean function (tested against real Go, not proved from fmt's source: count such statements apart). THE CARD IS WHAT COUNTS. Prove the row's statement (the work); the ties are given (YtmppanboolejjaaDoorTie.lean); close each card by the builder's one call (the guide's Derived/Test/ToyasCard.lean, 'card_holds'). Laid BY PROGRAM, IN A SANDBOX (cutbox-door.mjs). By AI agents, Wed Nov 11 2026. No macro, syntax, notation, axiom, sorry.
-/
import Derived.Test.YtmppanboolejjaaDoorRows
import GoSem.ClaimSeven
namespace Go.Proofs.YtmppanboolejjaaDoor
namespace Rows

/-- THE TIED CARD OF 'cardamomlaw3.VersForms'. -/
def versFormsCard : Claim7 := { stood := { row := versFormsRow, standIns := [], harness := (true, "ef3bf933c5a5ad78790577926be4cf0b159421595d5fd03edccc6432eb887eb7"), looks := true }, kinds := [], alts := [], laidByText := true, laidKinds := [.data, .handle, .pinned], laidTests := true, laidLooks := .later }
def VersFormsCardSaid : Prop := Claim7.holds Tryd.pinned (.plain (OpenSpec.ofChange versFormsSpec)) versFormsCard

/-- THE TIED CARD OF 'cardamomlaw3.VersOrder'. -/
def versOrderCard : Claim7 := { stood := { row := versOrderRow, standIns := [], harness := (true, "ef3bf933c5a5ad78790577926be4cf0b159421595d5fd03edccc6432eb887eb7"), looks := true }, kinds := [], alts := [], laidByText := true, laidKinds := [.data, .handle, .pinned], laidTests := true, laidLooks := .later }
def VersOrderCardSaid : Prop := Claim7.holds Tryd.pinned (.plain (OpenSpec.ofChange versOrderSpec)) versOrderCard

/-- THE TIED CARD OF 'cardamomlaw3.VersApart'. -/
def versApartCard : Claim7 := { stood := { row := versApartRow, standIns := [], harness := (true, "ef3bf933c5a5ad78790577926be4cf0b159421595d5fd03edccc6432eb887eb7"), looks := true }, kinds := [], alts := [], laidByText := true, laidKinds := [.data, .handle, .pinned], laidTests := true, laidLooks := .later }
def VersApartCardSaid : Prop := Claim7.holds Tryd.pinned (.plain (OpenSpec.ofChange versApartSpec)) versApartCard

/-- THE SECOND FORM's CARD OF 'cardamomlaw3.VersForms'. -/
def versFormsUptoCard : Claim7 := { stood := { row := versFormsUptoRow, standIns := [], harness := (true, "ef3bf933c5a5ad78790577926be4cf0b159421595d5fd03edccc6432eb887eb7"), looks := true }, kinds := [], alts := [], laidByText := true, laidKinds := [.data, .handle, .pinned], laidTests := true, laidLooks := .later }
def VersFormsUptoCardSaid : Prop := Claim7.holds Tryd.pinned (.plain (OpenSpec.upto versFormsSpec)) versFormsUptoCard

/-- THE SECOND FORM's CARD OF 'cardamomlaw3.VersOrder'. -/
def versOrderUptoCard : Claim7 := { stood := { row := versOrderUptoRow, standIns := [], harness := (true, "ef3bf933c5a5ad78790577926be4cf0b159421595d5fd03edccc6432eb887eb7"), looks := true }, kinds := [], alts := [], laidByText := true, laidKinds := [.data, .handle, .pinned], laidTests := true, laidLooks := .later }
def VersOrderUptoCardSaid : Prop := Claim7.holds Tryd.pinned (.plain (OpenSpec.upto versOrderSpec)) versOrderUptoCard

/-- THE SECOND FORM's CARD OF 'cardamomlaw3.VersApart'. -/
def versApartUptoCard : Claim7 := { stood := { row := versApartUptoRow, standIns := [], harness := (true, "ef3bf933c5a5ad78790577926be4cf0b159421595d5fd03edccc6432eb887eb7"), looks := true }, kinds := [], alts := [], laidByText := true, laidKinds := [.data, .handle, .pinned], laidTests := true, laidLooks := .later }
def VersApartUptoCardSaid : Prop := Claim7.holds Tryd.pinned (.plain (OpenSpec.upto versApartSpec)) versApartUptoCard
end Rows
end Go.Proofs.YtmppanboolejjaaDoor
