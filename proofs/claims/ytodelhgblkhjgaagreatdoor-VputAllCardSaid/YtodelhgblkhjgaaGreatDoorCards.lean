/-
  DERIVED. GIVEN WITH THE SEED: THE CARDS: each row of YtodelhgblkhjgaaGreatDoorRows.lean that lists a variable, with what it lists TIED to the program's text (the seventh form; the later family's looks); each row that meets fmt, with fmt's text TOLD by the authors' own Lean function (tested against real Go, not proved from fmt's source: count such statements apart). THE CARD IS WHAT COUNTS. Prove the row's statement (the work); the ties are given (YtodelhgblkhjgaaGreatDoorTie.lean); close each card by the builder's one call (the guide's Derived/Test/ToyasCard.lean, 'card_holds'). Laid BY PROGRAM, IN A SANDBOX (cutbox-door.mjs). By AI agents, Wed Nov 11 2026. No macro, syntax, notation, axiom, sorry.
-/
import Derived.Test.YtodelhgblkhjgaaGreatDoorRows
import GoSem.ClaimSeven
namespace Go.Proofs.YtodelhgblkhjgaaGreatDoor
namespace Rows

/-- THE TIED CARD OF 'cardamomlaw18.VputAll'. -/
def vputAllCard : Claim7 := { stood := { row := vputAllRow, standIns := [], harness := (true, "279ee2283d1bd530d1956f698e0a495a3a3077986d2b28bea7e96234481177e7"), looks := true }, kinds := [], alts := [], laidByText := true, laidKinds := [.data, .handle, .pinned], laidTests := true, laidLooks := .later }
def VputAllCardSaid : Prop := Claim7.holds Tryz.pinned (.plain (OpenSpec.ofChange vputAllSpec)) vputAllCard

/-- THE SECOND FORM's CARD OF 'cardamomlaw18.VputAll'. -/
def vputAllUptoCard : Claim7 := { stood := { row := vputAllUptoRow, standIns := [], harness := (true, "279ee2283d1bd530d1956f698e0a495a3a3077986d2b28bea7e96234481177e7"), looks := true }, kinds := [], alts := [], laidByText := true, laidKinds := [.data, .handle, .pinned], laidTests := true, laidLooks := .later }
def VputAllUptoCardSaid : Prop := Claim7.holds Tryz.pinned (.plain (OpenSpec.upto vputAllSpec)) vputAllUptoCard
end Rows
end Go.Proofs.YtodelhgblkhjgaaGreatDoor
