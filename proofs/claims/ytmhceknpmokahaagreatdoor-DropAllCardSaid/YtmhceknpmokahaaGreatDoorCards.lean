/-
  DERIVED. GIVEN WITH THE SEED: THE CARDS: each row of YtmhceknpmokahaaGreatDoorRows.lean that lists a variable, with what it lists TIED to the program's text (the seventh form; the later family's looks); each row that meets fmt, with fmt's text TOLD by the authors' own Lean function (tested against real Go, not proved from fmt's source: count such statements apart). THE CARD IS WHAT COUNTS. Prove the row's statement (the work); the ties are given (YtmhceknpmokahaaGreatDoorTie.lean); close each card by the builder's one call (the guide's Derived/Test/ToyasCard.lean, 'card_holds'). Laid BY PROGRAM, IN A SANDBOX (cutbox-door.mjs). By AI agents, Wed Nov 11 2026. No macro, syntax, notation, axiom, sorry.
-/
import Derived.Test.YtmhceknpmokahaaGreatDoorRows
import GoSem.ClaimSeven
namespace Go.Proofs.YtmhceknpmokahaaGreatDoor
namespace Rows

/-- THE TIED CARD OF 'cardamomlaw14.DropAll'. -/
def dropAllCard : Claim7 := { stood := { row := dropAllRow, standIns := [], harness := (true, "bf5c7d153e8a92edca34a4f2e152d1e4f1418c5a62b47d5e3621048e181d7f6a"), looks := true }, kinds := [], alts := [], laidByText := true, laidKinds := [.data, .handle, .pinned], laidTests := true, laidLooks := .later }
def DropAllCardSaid : Prop := Claim7.holds Tryz.pinned (.plain (OpenSpec.ofChange dropAllSpec)) dropAllCard

/-- THE TIED CARD OF 'cardamomlaw14.DropSafe'. -/
def dropSafeCard : Claim7 := { stood := { row := dropSafeRow, standIns := [], harness := (true, "bf5c7d153e8a92edca34a4f2e152d1e4f1418c5a62b47d5e3621048e181d7f6a"), looks := true }, kinds := [], alts := [], laidByText := true, laidKinds := [.data, .handle, .pinned], laidTests := true, laidLooks := .later }
def DropSafeCardSaid : Prop := Claim7.holds Tryz.pinned (.plain (OpenSpec.ofChange dropSafeSpec)) dropSafeCard

/-- THE TIED CARD OF 'cardamomlaw14.DropTwice'. -/
def dropTwiceCard : Claim7 := { stood := { row := dropTwiceRow, standIns := [], harness := (true, "bf5c7d153e8a92edca34a4f2e152d1e4f1418c5a62b47d5e3621048e181d7f6a"), looks := true }, kinds := [], alts := [], laidByText := true, laidKinds := [.data, .handle, .pinned], laidTests := true, laidLooks := .later }
def DropTwiceCardSaid : Prop := Claim7.holds Tryz.pinned (.plain (OpenSpec.ofChange dropTwiceSpec)) dropTwiceCard

/-- THE TIED CARD OF 'cardamomlaw15.TakeTwice'. -/
def takeTwiceCard : Claim7 := { stood := { row := takeTwiceRow, standIns := [], harness := (true, "bf5c7d153e8a92edca34a4f2e152d1e4f1418c5a62b47d5e3621048e181d7f6a"), looks := true }, kinds := [], alts := [], laidByText := true, laidKinds := [.data, .handle, .pinned], laidTests := true, laidLooks := .later }
def TakeTwiceCardSaid : Prop := Claim7.holds Tryz.pinned (.plain (OpenSpec.ofChange takeTwiceSpec)) takeTwiceCard

/-- THE TIED CARD OF 'cardamomlaw15.TakeHolds'. -/
def takeHoldsCard : Claim7 := { stood := { row := takeHoldsRow, standIns := [], harness := (true, "bf5c7d153e8a92edca34a4f2e152d1e4f1418c5a62b47d5e3621048e181d7f6a"), looks := true }, kinds := [], alts := [], laidByText := true, laidKinds := [.data, .handle, .pinned], laidTests := true, laidLooks := .later }
def TakeHoldsCardSaid : Prop := Claim7.holds Tryz.pinned (.plain (OpenSpec.ofChange takeHoldsSpec)) takeHoldsCard

/-- THE TIED CARD OF 'cardamomlaw15.TakeGrows'. -/
def takeGrowsCard : Claim7 := { stood := { row := takeGrowsRow, standIns := [], harness := (true, "bf5c7d153e8a92edca34a4f2e152d1e4f1418c5a62b47d5e3621048e181d7f6a"), looks := true }, kinds := [], alts := [], laidByText := true, laidKinds := [.data, .handle, .pinned], laidTests := true, laidLooks := .later }
def TakeGrowsCardSaid : Prop := Claim7.holds Tryz.pinned (.plain (OpenSpec.ofChange takeGrowsSpec)) takeGrowsCard

/-- THE TIED CARD OF 'cardamomlaw15.TakeWrong'. -/
def takeWrongCard : Claim7 := { stood := { row := takeWrongRow, standIns := [], harness := (true, "bf5c7d153e8a92edca34a4f2e152d1e4f1418c5a62b47d5e3621048e181d7f6a"), looks := true }, kinds := [], alts := [], laidByText := true, laidKinds := [.data, .handle, .pinned], laidTests := true, laidLooks := .later }
def TakeWrongCardSaid : Prop := Claim7.holds Tryz.pinned (.plain (OpenSpec.ofChange takeWrongSpec)) takeWrongCard

/-- THE TIED CARD OF 'cardamomlaw15.TakeEpoch'. -/
def takeEpochCard : Claim7 := { stood := { row := takeEpochRow, standIns := [], harness := (true, "bf5c7d153e8a92edca34a4f2e152d1e4f1418c5a62b47d5e3621048e181d7f6a"), looks := true }, kinds := [], alts := [], laidByText := true, laidKinds := [.data, .handle, .pinned], laidTests := true, laidLooks := .later }
def TakeEpochCardSaid : Prop := Claim7.holds Tryz.pinned (.plain (OpenSpec.ofChange takeEpochSpec)) takeEpochCard

/-- THE TIED CARD OF 'cardamomlaw15.TakeNews'. -/
def takeNewsCard : Claim7 := { stood := { row := takeNewsRow, standIns := [], harness := (true, "bf5c7d153e8a92edca34a4f2e152d1e4f1418c5a62b47d5e3621048e181d7f6a"), looks := true }, kinds := [], alts := [], laidByText := true, laidKinds := [.data, .handle, .pinned], laidTests := true, laidLooks := .later }
def TakeNewsCardSaid : Prop := Claim7.holds Tryz.pinned (.plain (OpenSpec.ofChange takeNewsSpec)) takeNewsCard

/-- THE TIED CARD OF 'cardamomlaw12.ReplStamps'. -/
def replStampsCard : Claim7 := { stood := { row := replStampsRow, standIns := [], harness := (true, "bf5c7d153e8a92edca34a4f2e152d1e4f1418c5a62b47d5e3621048e181d7f6a"), looks := true }, kinds := [], alts := [], laidByText := true, laidKinds := [.data, .handle, .pinned], laidTests := true, laidLooks := .later }
def ReplStampsCardSaid : Prop := Claim7.holds Tryz.pinned (.plain (OpenSpec.ofChange replStampsSpec)) replStampsCard

/-- THE TIED CARD OF 'cardamomlaw12.ReplWrong'. -/
def replWrongCard : Claim7 := { stood := { row := replWrongRow, standIns := [], harness := (true, "bf5c7d153e8a92edca34a4f2e152d1e4f1418c5a62b47d5e3621048e181d7f6a"), looks := true }, kinds := [], alts := [], laidByText := true, laidKinds := [.data, .handle, .pinned], laidTests := true, laidLooks := .later }
def ReplWrongCardSaid : Prop := Claim7.holds Tryz.pinned (.plain (OpenSpec.ofChange replWrongSpec)) replWrongCard

/-- THE TIED CARD OF 'cardamomlaw12.ReplAsks'. -/
def replAsksCard : Claim7 := { stood := { row := replAsksRow, standIns := [], harness := (true, "bf5c7d153e8a92edca34a4f2e152d1e4f1418c5a62b47d5e3621048e181d7f6a"), looks := true }, kinds := [], alts := [], laidByText := true, laidKinds := [.data, .handle, .pinned], laidTests := true, laidLooks := .later }
def ReplAsksCardSaid : Prop := Claim7.holds Tryz.pinned (.plain (OpenSpec.ofChange replAsksSpec)) replAsksCard

/-- THE SECOND FORM's CARD OF 'cardamomlaw14.DropAll'. -/
def dropAllUptoCard : Claim7 := { stood := { row := dropAllUptoRow, standIns := [], harness := (true, "bf5c7d153e8a92edca34a4f2e152d1e4f1418c5a62b47d5e3621048e181d7f6a"), looks := true }, kinds := [], alts := [], laidByText := true, laidKinds := [.data, .handle, .pinned], laidTests := true, laidLooks := .later }
def DropAllUptoCardSaid : Prop := Claim7.holds Tryz.pinned (.plain (OpenSpec.upto dropAllSpec)) dropAllUptoCard

/-- THE SECOND FORM's CARD OF 'cardamomlaw14.DropSafe'. -/
def dropSafeUptoCard : Claim7 := { stood := { row := dropSafeUptoRow, standIns := [], harness := (true, "bf5c7d153e8a92edca34a4f2e152d1e4f1418c5a62b47d5e3621048e181d7f6a"), looks := true }, kinds := [], alts := [], laidByText := true, laidKinds := [.data, .handle, .pinned], laidTests := true, laidLooks := .later }
def DropSafeUptoCardSaid : Prop := Claim7.holds Tryz.pinned (.plain (OpenSpec.upto dropSafeSpec)) dropSafeUptoCard

/-- THE SECOND FORM's CARD OF 'cardamomlaw14.DropTwice'. -/
def dropTwiceUptoCard : Claim7 := { stood := { row := dropTwiceUptoRow, standIns := [], harness := (true, "bf5c7d153e8a92edca34a4f2e152d1e4f1418c5a62b47d5e3621048e181d7f6a"), looks := true }, kinds := [], alts := [], laidByText := true, laidKinds := [.data, .handle, .pinned], laidTests := true, laidLooks := .later }
def DropTwiceUptoCardSaid : Prop := Claim7.holds Tryz.pinned (.plain (OpenSpec.upto dropTwiceSpec)) dropTwiceUptoCard

/-- THE SECOND FORM's CARD OF 'cardamomlaw15.TakeTwice'. -/
def takeTwiceUptoCard : Claim7 := { stood := { row := takeTwiceUptoRow, standIns := [], harness := (true, "bf5c7d153e8a92edca34a4f2e152d1e4f1418c5a62b47d5e3621048e181d7f6a"), looks := true }, kinds := [], alts := [], laidByText := true, laidKinds := [.data, .handle, .pinned], laidTests := true, laidLooks := .later }
def TakeTwiceUptoCardSaid : Prop := Claim7.holds Tryz.pinned (.plain (OpenSpec.upto takeTwiceSpec)) takeTwiceUptoCard

/-- THE SECOND FORM's CARD OF 'cardamomlaw15.TakeHolds'. -/
def takeHoldsUptoCard : Claim7 := { stood := { row := takeHoldsUptoRow, standIns := [], harness := (true, "bf5c7d153e8a92edca34a4f2e152d1e4f1418c5a62b47d5e3621048e181d7f6a"), looks := true }, kinds := [], alts := [], laidByText := true, laidKinds := [.data, .handle, .pinned], laidTests := true, laidLooks := .later }
def TakeHoldsUptoCardSaid : Prop := Claim7.holds Tryz.pinned (.plain (OpenSpec.upto takeHoldsSpec)) takeHoldsUptoCard

/-- THE SECOND FORM's CARD OF 'cardamomlaw15.TakeGrows'. -/
def takeGrowsUptoCard : Claim7 := { stood := { row := takeGrowsUptoRow, standIns := [], harness := (true, "bf5c7d153e8a92edca34a4f2e152d1e4f1418c5a62b47d5e3621048e181d7f6a"), looks := true }, kinds := [], alts := [], laidByText := true, laidKinds := [.data, .handle, .pinned], laidTests := true, laidLooks := .later }
def TakeGrowsUptoCardSaid : Prop := Claim7.holds Tryz.pinned (.plain (OpenSpec.upto takeGrowsSpec)) takeGrowsUptoCard

/-- THE SECOND FORM's CARD OF 'cardamomlaw15.TakeWrong'. -/
def takeWrongUptoCard : Claim7 := { stood := { row := takeWrongUptoRow, standIns := [], harness := (true, "bf5c7d153e8a92edca34a4f2e152d1e4f1418c5a62b47d5e3621048e181d7f6a"), looks := true }, kinds := [], alts := [], laidByText := true, laidKinds := [.data, .handle, .pinned], laidTests := true, laidLooks := .later }
def TakeWrongUptoCardSaid : Prop := Claim7.holds Tryz.pinned (.plain (OpenSpec.upto takeWrongSpec)) takeWrongUptoCard

/-- THE SECOND FORM's CARD OF 'cardamomlaw15.TakeEpoch'. -/
def takeEpochUptoCard : Claim7 := { stood := { row := takeEpochUptoRow, standIns := [], harness := (true, "bf5c7d153e8a92edca34a4f2e152d1e4f1418c5a62b47d5e3621048e181d7f6a"), looks := true }, kinds := [], alts := [], laidByText := true, laidKinds := [.data, .handle, .pinned], laidTests := true, laidLooks := .later }
def TakeEpochUptoCardSaid : Prop := Claim7.holds Tryz.pinned (.plain (OpenSpec.upto takeEpochSpec)) takeEpochUptoCard

/-- THE SECOND FORM's CARD OF 'cardamomlaw15.TakeNews'. -/
def takeNewsUptoCard : Claim7 := { stood := { row := takeNewsUptoRow, standIns := [], harness := (true, "bf5c7d153e8a92edca34a4f2e152d1e4f1418c5a62b47d5e3621048e181d7f6a"), looks := true }, kinds := [], alts := [], laidByText := true, laidKinds := [.data, .handle, .pinned], laidTests := true, laidLooks := .later }
def TakeNewsUptoCardSaid : Prop := Claim7.holds Tryz.pinned (.plain (OpenSpec.upto takeNewsSpec)) takeNewsUptoCard

/-- THE SECOND FORM's CARD OF 'cardamomlaw12.ReplStamps'. -/
def replStampsUptoCard : Claim7 := { stood := { row := replStampsUptoRow, standIns := [], harness := (true, "bf5c7d153e8a92edca34a4f2e152d1e4f1418c5a62b47d5e3621048e181d7f6a"), looks := true }, kinds := [], alts := [], laidByText := true, laidKinds := [.data, .handle, .pinned], laidTests := true, laidLooks := .later }
def ReplStampsUptoCardSaid : Prop := Claim7.holds Tryz.pinned (.plain (OpenSpec.upto replStampsSpec)) replStampsUptoCard

/-- THE SECOND FORM's CARD OF 'cardamomlaw12.ReplWrong'. -/
def replWrongUptoCard : Claim7 := { stood := { row := replWrongUptoRow, standIns := [], harness := (true, "bf5c7d153e8a92edca34a4f2e152d1e4f1418c5a62b47d5e3621048e181d7f6a"), looks := true }, kinds := [], alts := [], laidByText := true, laidKinds := [.data, .handle, .pinned], laidTests := true, laidLooks := .later }
def ReplWrongUptoCardSaid : Prop := Claim7.holds Tryz.pinned (.plain (OpenSpec.upto replWrongSpec)) replWrongUptoCard

/-- THE SECOND FORM's CARD OF 'cardamomlaw12.ReplAsks'. -/
def replAsksUptoCard : Claim7 := { stood := { row := replAsksUptoRow, standIns := [], harness := (true, "bf5c7d153e8a92edca34a4f2e152d1e4f1418c5a62b47d5e3621048e181d7f6a"), looks := true }, kinds := [], alts := [], laidByText := true, laidKinds := [.data, .handle, .pinned], laidTests := true, laidLooks := .later }
def ReplAsksUptoCardSaid : Prop := Claim7.holds Tryz.pinned (.plain (OpenSpec.upto replAsksSpec)) replAsksUptoCard
end Rows
end Go.Proofs.YtmhceknpmokahaaGreatDoor
