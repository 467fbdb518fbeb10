/-
  No cell of these rows narrows 'for every input' (looked for: loops, veiled, ifaces, maps, wideKeys, modest, calm, conditions, laid).
  DERIVED. THE GIVEN ROWS OF THIS SEAT. 6 by the template 'for every input the law returns true; each argument reads behind the call as it read before'; 0 by the template 'total and deterministic' (their statements: YtmppanboolejjaaGreatTotals.lean).
  GIVEN WITH THE SEED: the statements are not yours to turn. If you find one false, say at which input.
  Laid BY PROGRAM, IN A SANDBOX (cutbox-rows.mjs): the forced cells as the released guide's own fill.sh prints them over the translation 02b8de01c3397d6e… (all of the seat's roots in one cut). By AI agents, Wed Nov 11 2026. No macro, syntax, notation, axiom, sorry.
-/
import Derived.Test.YtmppanboolejjaaGreatChecked
import GoSem.Claim
import GoSem.ClaimJoined
import GoSem.ClaimMapViews
import Derived.JoinedTies
import Derived.KernelRfl
namespace Go.Proofs.YtmppanboolejjaaGreat
/- THE CELL 'sum', in the pinned program and in every row, IS THE sha256 OF THE DUMP (.gsa) THAT YtmppanboolejjaaGreatProg.lean LOADS. Nothing in Lean hashes anything: it is a label: what it is worth is what the hold of that sum in a sandbox is worth. -/
noncomputable def Tryz.pinned : Pinned := { name := "ytmppanboolejjaagreat", sum := "02b8de01c3397d6e794fab8c64bd226fba2a0a80e919cb3300459ca484f1fec3", checked := Tryz.checked }
namespace Rows
def none {H : Type} : Left H := { results := [], args := [] }

/-- 'cardamomlaw27.RankAll': WHATEVER THE INPUT: true; the input reads as it did. -/
def rankAllSpec : ChangeSpec := { name := "rankAll", fn := fun _ => fun
  | [d] => { results := [.lit (.bool true)], args := [d] }
  | _ => none }
def rankAllRow : OpenClaim := { program := "ytmppanboolejjaagreat", sum := "02b8de01c3397d6e794fab8c64bd226fba2a0a80e919cb3300459ca484f1fec3", func := "cardamom/cardamomlaw27.RankAll", spec := "rankAll", inPlace := ["slices.overlaps[cardamom/api.Head]"], unfollowed := true, recurses := true, apart := false }
def RankAllSaid : Prop := rankAllRow.holds Tryz.pinned (OpenSpec.ofChange rankAllSpec)

/-- ITS FALSE NEIGHBOUR: 'it returns false'. Refute it at one input. -/
def rankAllWrong : ChangeSpec := { name := "rankAll", fn := fun _ => fun
  | [d] => { results := [.lit (.bool false)], args := [d] }
  | _ => none }
def RankAllWrongFalsely : Prop := rankAllRow.holds Tryz.pinned (OpenSpec.ofChange rankAllWrong)

/-- 'cardamomlaw27.RankNought': WHATEVER THE INPUT: true; the input reads as it did. -/
def rankNoughtSpec : ChangeSpec := { name := "rankNought", fn := fun _ => fun
  | [d1, d2] => { results := [.lit (.bool true)], args := [d1, d2] }
  | _ => none }
def rankNoughtRow : OpenClaim := { program := "ytmppanboolejjaagreat", sum := "02b8de01c3397d6e794fab8c64bd226fba2a0a80e919cb3300459ca484f1fec3", func := "cardamom/cardamomlaw27.RankNought", spec := "rankNought", inPlace := ["slices.overlaps[cardamom/api.Head]"], unfollowed := true, recurses := true, apart := false }
def RankNoughtSaid : Prop := rankNoughtRow.holds Tryz.pinned (OpenSpec.ofChange rankNoughtSpec)

/-- ITS FALSE NEIGHBOUR: 'it returns false'. Refute it at one input. -/
def rankNoughtWrong : ChangeSpec := { name := "rankNought", fn := fun _ => fun
  | [d1, d2] => { results := [.lit (.bool false)], args := [d1, d2] }
  | _ => none }
def RankNoughtWrongFalsely : Prop := rankNoughtRow.holds Tryz.pinned (OpenSpec.ofChange rankNoughtWrong)

/-- 'cardamomlaw27.RankForms': WHATEVER THE INPUT: true; the input reads as it did. -/
def rankFormsSpec : ChangeSpec := { name := "rankForms", fn := fun _ => fun
  | [] => { results := [.lit (.bool true)], args := [] }
  | _ => none }
def rankFormsRow : OpenClaim := { program := "ytmppanboolejjaagreat", sum := "02b8de01c3397d6e794fab8c64bd226fba2a0a80e919cb3300459ca484f1fec3", func := "cardamom/cardamomlaw27.RankForms", spec := "rankForms", inPlace := ["slices.overlaps[cardamom/api.Head]"], unfollowed := true, recurses := true, apart := false }
def RankFormsSaid : Prop := rankFormsRow.holds Tryz.pinned (OpenSpec.ofChange rankFormsSpec)

/-- ITS FALSE NEIGHBOUR: 'it returns false'. Refute it at one input. -/
def rankFormsWrong : ChangeSpec := { name := "rankForms", fn := fun _ => fun
  | [] => { results := [.lit (.bool false)], args := [] }
  | _ => none }
def RankFormsWrongFalsely : Prop := rankFormsRow.holds Tryz.pinned (OpenSpec.ofChange rankFormsWrong)

/-- 'cardamomlaw13.OfferAll': WHATEVER THE INPUT: true; the input reads as it did. -/
def offerAllSpec : ChangeSpec := { name := "offerAll", fn := fun _ => fun
  | [d1, d2, d3] => { results := [.lit (.bool true)], args := [d1, d2, d3] }
  | _ => none }
def offerAllRow : OpenClaim := { program := "ytmppanboolejjaagreat", sum := "02b8de01c3397d6e794fab8c64bd226fba2a0a80e919cb3300459ca484f1fec3", func := "cardamom/cardamomlaw13.OfferAll", spec := "offerAll", unfollowed := true, recurses := true, apart := false }
def OfferAllSaid : Prop := offerAllRow.holds Tryz.pinned (OpenSpec.ofChange offerAllSpec)

/-- ITS FALSE NEIGHBOUR: 'it returns false'. Refute it at one input. -/
def offerAllWrong : ChangeSpec := { name := "offerAll", fn := fun _ => fun
  | [d1, d2, d3] => { results := [.lit (.bool false)], args := [d1, d2, d3] }
  | _ => none }
def OfferAllWrongFalsely : Prop := offerAllRow.holds Tryz.pinned (OpenSpec.ofChange offerAllWrong)

/-- 'cardamomlaw13.OfferNews': WHATEVER THE INPUT: true; the input reads as it did. -/
def offerNewsSpec : ChangeSpec := { name := "offerNews", fn := fun _ => fun
  | [d1, d2] => { results := [.lit (.bool true)], args := [d1, d2] }
  | _ => none }
def offerNewsRow : OpenClaim := { program := "ytmppanboolejjaagreat", sum := "02b8de01c3397d6e794fab8c64bd226fba2a0a80e919cb3300459ca484f1fec3", func := "cardamom/cardamomlaw13.OfferNews", spec := "offerNews", unfollowed := true, recurses := true, apart := false }
def OfferNewsSaid : Prop := offerNewsRow.holds Tryz.pinned (OpenSpec.ofChange offerNewsSpec)

/-- ITS FALSE NEIGHBOUR: 'it returns false'. Refute it at one input. -/
def offerNewsWrong : ChangeSpec := { name := "offerNews", fn := fun _ => fun
  | [d1, d2] => { results := [.lit (.bool false)], args := [d1, d2] }
  | _ => none }
def OfferNewsWrongFalsely : Prop := offerNewsRow.holds Tryz.pinned (OpenSpec.ofChange offerNewsWrong)

/-- 'cardamomlaw13.OfferViews': WHATEVER THE INPUT: true; the input reads as it did. -/
def offerViewsSpec : ChangeSpec := { name := "offerViews", fn := fun _ => fun
  | [d] => { results := [.lit (.bool true)], args := [d] }
  | _ => none }
def offerViewsRow : OpenClaim := { program := "ytmppanboolejjaagreat", sum := "02b8de01c3397d6e794fab8c64bd226fba2a0a80e919cb3300459ca484f1fec3", func := "cardamom/cardamomlaw13.OfferViews", spec := "offerViews", unfollowed := true, recurses := true, apart := false }
def OfferViewsSaid : Prop := offerViewsRow.holds Tryz.pinned (OpenSpec.ofChange offerViewsSpec)

/-- ITS FALSE NEIGHBOUR: 'it returns false'. Refute it at one input. -/
def offerViewsWrong : ChangeSpec := { name := "offerViews", fn := fun _ => fun
  | [d] => { results := [.lit (.bool false)], args := [d] }
  | _ => none }
def OfferViewsWrongFalsely : Prop := offerViewsRow.holds Tryz.pinned (OpenSpec.ofChange offerViewsWrong)

/- THE SECOND FORM. 'bulk': how many values and letters a reading holds, each counted each time it is reached (what is shared counts as often as it is met; a slice's spare places count too). A statement '..UptoSaid' is the law's where the arguments, and the package variables that the reading takes, are together of bulk at most 1048576: NARROWER than '..Said'. Prove '..Said' where nothing that the law and all that it calls make is longer than what came in: it says more and counts as full. Else prove '..UptoSaid'. A law counts once. -/
mutual
def uptoBulk {H : Type} : DataW H → Nat
  | .lit (.string bytes) => bytes.length + 1
  | .lit _ => 1
  | .nil => 1
  | .ptr d => uptoBulk d + 1
  | .slice elems spare => uptoBulkAll elems + uptoBulkAll spare + 1
  | .agg parts => uptoBulkAll parts + 1
  | .iface _ d => uptoBulk d + 1
  | .map entries => uptoBulkEntries entries + 1
  | .held _ => 1
def uptoBulkAll {H : Type} : List (DataW H) → Nat
  | [] => 0
  | d :: r => uptoBulk d + uptoBulkAll r
def uptoBulkEntries {H : Type} : List (Lit × DataW H) → Nat
  | [] => 0
  | x :: r => uptoBulkEntry x + uptoBulkEntries r
def uptoBulkEntry {H : Type} : Lit × DataW H → Nat
  | (.string bytes, d) => bytes.length + uptoBulk d + 1
  | (_, d) => uptoBulk d + 1
 end
def uptoSmall : (H : Type) → List (DataW H) → Bool := fun _ ds => decide (uptoBulkAll ds ≤ 1048576)
def OpenSpec.upto (s : _root_.Go.ChangeSpec) : _root_.Go.OpenSpec := { _root_.Go.OpenSpec.ofChange s with cond := some uptoSmall }

/-- 'cardamomlaw27.RankAll', WHERE WHAT IT READS IS OF BULK AT MOST 1048576: true; the input reads as it did. -/
def rankAllUptoRow : OpenClaim := { program := "ytmppanboolejjaagreat", sum := "02b8de01c3397d6e794fab8c64bd226fba2a0a80e919cb3300459ca484f1fec3", func := "cardamom/cardamomlaw27.RankAll", spec := "rankAll", inPlace := ["slices.overlaps[cardamom/api.Head]"], unfollowed := true, recurses := true, apart := false, narrowed := true }
def RankAllUptoSaid : Prop := rankAllUptoRow.holds Tryz.pinned (OpenSpec.upto rankAllSpec)

/-- 'cardamomlaw27.RankNought', WHERE WHAT IT READS IS OF BULK AT MOST 1048576: true; the input reads as it did. -/
def rankNoughtUptoRow : OpenClaim := { program := "ytmppanboolejjaagreat", sum := "02b8de01c3397d6e794fab8c64bd226fba2a0a80e919cb3300459ca484f1fec3", func := "cardamom/cardamomlaw27.RankNought", spec := "rankNought", inPlace := ["slices.overlaps[cardamom/api.Head]"], unfollowed := true, recurses := true, apart := false, narrowed := true }
def RankNoughtUptoSaid : Prop := rankNoughtUptoRow.holds Tryz.pinned (OpenSpec.upto rankNoughtSpec)

/-- 'cardamomlaw27.RankForms', WHERE WHAT IT READS IS OF BULK AT MOST 1048576: true; the input reads as it did. -/
def rankFormsUptoRow : OpenClaim := { program := "ytmppanboolejjaagreat", sum := "02b8de01c3397d6e794fab8c64bd226fba2a0a80e919cb3300459ca484f1fec3", func := "cardamom/cardamomlaw27.RankForms", spec := "rankForms", inPlace := ["slices.overlaps[cardamom/api.Head]"], unfollowed := true, recurses := true, apart := false, narrowed := true }
def RankFormsUptoSaid : Prop := rankFormsUptoRow.holds Tryz.pinned (OpenSpec.upto rankFormsSpec)

/-- 'cardamomlaw13.OfferAll', WHERE WHAT IT READS IS OF BULK AT MOST 1048576: true; the input reads as it did. -/
def offerAllUptoRow : OpenClaim := { program := "ytmppanboolejjaagreat", sum := "02b8de01c3397d6e794fab8c64bd226fba2a0a80e919cb3300459ca484f1fec3", func := "cardamom/cardamomlaw13.OfferAll", spec := "offerAll", unfollowed := true, recurses := true, apart := false, narrowed := true }
def OfferAllUptoSaid : Prop := offerAllUptoRow.holds Tryz.pinned (OpenSpec.upto offerAllSpec)

/-- 'cardamomlaw13.OfferNews', WHERE WHAT IT READS IS OF BULK AT MOST 1048576: true; the input reads as it did. -/
def offerNewsUptoRow : OpenClaim := { program := "ytmppanboolejjaagreat", sum := "02b8de01c3397d6e794fab8c64bd226fba2a0a80e919cb3300459ca484f1fec3", func := "cardamom/cardamomlaw13.OfferNews", spec := "offerNews", unfollowed := true, recurses := true, apart := false, narrowed := true }
def OfferNewsUptoSaid : Prop := offerNewsUptoRow.holds Tryz.pinned (OpenSpec.upto offerNewsSpec)

/-- 'cardamomlaw13.OfferViews', WHERE WHAT IT READS IS OF BULK AT MOST 1048576: true; the input reads as it did. -/
def offerViewsUptoRow : OpenClaim := { program := "ytmppanboolejjaagreat", sum := "02b8de01c3397d6e794fab8c64bd226fba2a0a80e919cb3300459ca484f1fec3", func := "cardamom/cardamomlaw13.OfferViews", spec := "offerViews", unfollowed := true, recurses := true, apart := false, narrowed := true }
def OfferViewsUptoSaid : Prop := offerViewsUptoRow.holds Tryz.pinned (OpenSpec.upto offerViewsSpec)

end Rows
end Go.Proofs.YtmppanboolejjaaGreat
