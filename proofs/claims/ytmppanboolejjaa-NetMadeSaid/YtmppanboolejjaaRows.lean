/-
  No cell of these rows narrows 'for every input' (looked for: loops, veiled, ifaces, maps, wideKeys, modest, calm, conditions, laid).
  DERIVED. THE GIVEN ROWS OF THIS SEAT. 3 by the template 'for every input the law returns true; each argument reads behind the call as it read before'; 0 by the template 'total and deterministic' (their statements: YtmppanboolejjaaTotals.lean).
  GIVEN WITH THE SEED: the statements are not yours to turn. If you find one false, say at which input.
  Laid BY PROGRAM, IN A SANDBOX (cutbox-rows.mjs): the forced cells as the released guide's own fill.sh prints them over the translation 4a27aa4297072704… (all of the seat's roots in one cut). By AI agents, Wed Nov 11 2026. No macro, syntax, notation, axiom, sorry.
-/
import Derived.Test.YtmppanboolejjaaChecked
import GoSem.Claim
import GoSem.ClaimJoined
import GoSem.ClaimMapViews
import Derived.JoinedTies
import Derived.KernelRfl
namespace Go.Proofs.Ytmppanboolejjaa
/- THE CELL 'sum', in the pinned program and in every row, IS THE sha256 OF THE DUMP (.gsa) THAT YtmppanboolejjaaProg.lean LOADS. Nothing in Lean hashes anything: it is a label: what it is worth is what the hold of that sum in a sandbox is worth. -/
noncomputable def Try.pinned : Pinned := { name := "ytmppanboolejjaa", sum := "4a27aa429707270404221b843f4b77be55b16fcdc4ce55f0e51b9332a9a11520", checked := Try.checked }
namespace Rows
def none {H : Type} : Left H := { results := [], args := [] }

/-- 'cardamomlaw23.NetMade': WHATEVER THE INPUT: true; the input reads as it did. -/
def netMadeSpec : ChangeSpec := { name := "netMade", fn := fun _ => fun
  | [d] => { results := [.lit (.bool true)], args := [d] }
  | _ => none }
def netMadeRow : OpenClaim := { program := "ytmppanboolejjaa", sum := "4a27aa429707270404221b843f4b77be55b16fcdc4ce55f0e51b9332a9a11520", func := "cardamom/cardamomlaw23.NetMade", spec := "netMade", apart := false }
def NetMadeSaid : Prop := netMadeRow.holds Try.pinned (OpenSpec.ofChange netMadeSpec)

/-- ITS FALSE NEIGHBOUR: 'it returns false'. Refute it at one input. -/
def netMadeWrong : ChangeSpec := { name := "netMade", fn := fun _ => fun
  | [d] => { results := [.lit (.bool false)], args := [d] }
  | _ => none }
def NetMadeWrongFalsely : Prop := netMadeRow.holds Try.pinned (OpenSpec.ofChange netMadeWrong)

/-- 'cardamomlaw23.NetForms': WHATEVER THE INPUT: true; the input reads as it did. -/
def netFormsSpec : ChangeSpec := { name := "netForms", fn := fun _ => fun
  | [] => { results := [.lit (.bool true)], args := [] }
  | _ => none }
def netFormsRow : OpenClaim := { program := "ytmppanboolejjaa", sum := "4a27aa429707270404221b843f4b77be55b16fcdc4ce55f0e51b9332a9a11520", func := "cardamom/cardamomlaw23.NetForms", spec := "netForms", apart := false }
def NetFormsSaid : Prop := netFormsRow.holds Try.pinned (OpenSpec.ofChange netFormsSpec)

/-- ITS FALSE NEIGHBOUR: 'it returns false'. Refute it at one input. -/
def netFormsWrong : ChangeSpec := { name := "netForms", fn := fun _ => fun
  | [] => { results := [.lit (.bool false)], args := [] }
  | _ => none }
def NetFormsWrongFalsely : Prop := netFormsRow.holds Try.pinned (OpenSpec.ofChange netFormsWrong)

/-- 'cardamomlaw13.OfferForms': WHATEVER THE INPUT: true; the input reads as it did. -/
def offerFormsSpec : ChangeSpec := { name := "offerForms", fn := fun _ => fun
  | [] => { results := [.lit (.bool true)], args := [] }
  | _ => none }
def offerFormsRow : OpenClaim := { program := "ytmppanboolejjaa", sum := "4a27aa429707270404221b843f4b77be55b16fcdc4ce55f0e51b9332a9a11520", func := "cardamom/cardamomlaw13.OfferForms", spec := "offerForms", unfollowed := true, recurses := true, apart := false }
def OfferFormsSaid : Prop := offerFormsRow.holds Try.pinned (OpenSpec.ofChange offerFormsSpec)

/-- ITS FALSE NEIGHBOUR: 'it returns false'. Refute it at one input. -/
def offerFormsWrong : ChangeSpec := { name := "offerForms", fn := fun _ => fun
  | [] => { results := [.lit (.bool false)], args := [] }
  | _ => none }
def OfferFormsWrongFalsely : Prop := offerFormsRow.holds Try.pinned (OpenSpec.ofChange offerFormsWrong)

/- THE SECOND FORM. 'bulk': how many values and letters a reading holds, each counted each time it is reached (what is shared counts as often as it is met; a slice's spare places count too). A statement '..UptoSaid' is the law's where the arguments, and the package variables that the reading takes, are together of bulk at most 1048576: NARROWER than '..Said'. Prove '..Said' where nothing that the law and all that it calls make is longer than what came in: it says more and counts as full. Else prove '..UptoSaid'. A law counts once. -/
mutual
def uptoBulk {H : Type} : DataW H → Nat
  | .lit (.string bytes) => bytes.length + 1
  | .lit _ => 1
  | .nil => 1
  | .ptr d => uptoBulk d + 1
  | .slice elems spare => uptoBulkAll elems + uptoBulkAll spare + 1
  | .agg parts => uptoBulkAll parts + 1
  | .iface _ d => uptoBulk d + 1
  | .map entries => uptoBulkEntries entries + 1
  | .held _ => 1
def uptoBulkAll {H : Type} : List (DataW H) → Nat
  | [] => 0
  | d :: r => uptoBulk d + uptoBulkAll r
def uptoBulkEntries {H : Type} : List (Lit × DataW H) → Nat
  | [] => 0
  | x :: r => uptoBulkEntry x + uptoBulkEntries r
def uptoBulkEntry {H : Type} : Lit × DataW H → Nat
  | (.string bytes, d) => bytes.length + uptoBulk d + 1
  | (_, d) => uptoBulk d + 1
 end
def uptoSmall : (H : Type) → List (DataW H) → Bool := fun _ ds => decide (uptoBulkAll ds ≤ 1048576)
def OpenSpec.upto (s : _root_.Go.ChangeSpec) : _root_.Go.OpenSpec := { _root_.Go.OpenSpec.ofChange s with cond := some uptoSmall }

/-- 'cardamomlaw23.NetMade', WHERE WHAT IT READS IS OF BULK AT MOST 1048576: true; the input reads as it did. -/
def netMadeUptoRow : OpenClaim := { program := "ytmppanboolejjaa", sum := "4a27aa429707270404221b843f4b77be55b16fcdc4ce55f0e51b9332a9a11520", func := "cardamom/cardamomlaw23.NetMade", spec := "netMade", apart := false, narrowed := true }
def NetMadeUptoSaid : Prop := netMadeUptoRow.holds Try.pinned (OpenSpec.upto netMadeSpec)

/-- 'cardamomlaw23.NetForms', WHERE WHAT IT READS IS OF BULK AT MOST 1048576: true; the input reads as it did. -/
def netFormsUptoRow : OpenClaim := { program := "ytmppanboolejjaa", sum := "4a27aa429707270404221b843f4b77be55b16fcdc4ce55f0e51b9332a9a11520", func := "cardamom/cardamomlaw23.NetForms", spec := "netForms", apart := false, narrowed := true }
def NetFormsUptoSaid : Prop := netFormsUptoRow.holds Try.pinned (OpenSpec.upto netFormsSpec)

/-- 'cardamomlaw13.OfferForms', WHERE WHAT IT READS IS OF BULK AT MOST 1048576: true; the input reads as it did. -/
def offerFormsUptoRow : OpenClaim := { program := "ytmppanboolejjaa", sum := "4a27aa429707270404221b843f4b77be55b16fcdc4ce55f0e51b9332a9a11520", func := "cardamom/cardamomlaw13.OfferForms", spec := "offerForms", unfollowed := true, recurses := true, apart := false, narrowed := true }
def OfferFormsUptoSaid : Prop := offerFormsUptoRow.holds Try.pinned (OpenSpec.upto offerFormsSpec)

end Rows
end Go.Proofs.Ytmppanboolejjaa
