/-
  NARROWER THAN 'FOR EVERY INPUT', by the rows' own cells (each row's printed sentence says how): ViewForms: laid · DropForms: laid · GoalForms: laid · ReplForms: laid · MeshForms: laid.
  DERIVED. THE GIVEN ROWS OF THIS SEAT. 5 by the template 'for every input the law returns true; each argument reads behind the call as it read before'; 0 by the template 'total and deterministic' (their statements: YtgaibmbphbmlkaaGreatDoorTotals.lean).
  GIVEN WITH THE SEED: the statements are not yours to turn. If you find one false, say at which input.
  Laid BY PROGRAM, IN A SANDBOX (cutbox-rows.mjs): the forced cells as the released guide's own fill.sh prints them over the translation 8c20f2e865dc51f9… (all of the seat's roots in one cut). By AI agents, Wed Nov 11 2026. No macro, syntax, notation, axiom, sorry.
-/
import Derived.Test.YtgaibmbphbmlkaaGreatDoorChecked
import GoSem.PinnedTables
import GoSem.Claim
import GoSem.ClaimJoined
import GoSem.ClaimMapViews
import Derived.JoinedTies
import Derived.KernelRfl
namespace Go.Proofs.YtgaibmbphbmlkaaGreatDoor
/- THE CELL 'sum', in the pinned program and in every row, IS THE sha256 OF THE DUMP (.gsa) THAT YtgaibmbphbmlkaaGreatDoorProg.lean LOADS. Nothing in Lean hashes anything: it is a label: what it is worth is what the hold of that sum in a sandbox is worth. -/
noncomputable def Tryz.pinned : Pinned := { name := "ytgaibmbphbmlkaagreatdoor", sum := "8c20f2e865dc51f96fb29d89b8077489fc6a00566f791886bec3a9a80ffb3076", checked := Tryz.checked }
namespace Rows
def none {H : Type} : Left H := { results := [], args := [] }

/- WHAT THE LISTED PACKAGE-LEVEL VARIABLES READ AS WHEN THE CALL BEGINS. Each datum BY PROGRAM (the guide's laid-datum.mjs) off the statement by which the dump's own 'gosem.cut.vars' lays the variable. In a bare row this is a premise. The card (YtgaibmbphbmlkaaGreatDoorCards.lean) ties it to the program's text. -/
def laid_unicode_utf8_acceptRanges {H : Type} : DataW H := .agg [.agg [.lit (.int .u8 128), .lit (.int .u8 191)], .agg [.lit (.int .u8 160), .lit (.int .u8 191)], .agg [.lit (.int .u8 128), .lit (.int .u8 159)], .agg [.lit (.int .u8 144), .lit (.int .u8 191)], .agg [.lit (.int .u8 128), .lit (.int .u8 143)], .agg [.lit (.int .u8 0), .lit (.int .u8 0)], .agg [.lit (.int .u8 0), .lit (.int .u8 0)], .agg [.lit (.int .u8 0), .lit (.int .u8 0)], .agg [.lit (.int .u8 0), .lit (.int .u8 0)], .agg [.lit (.int .u8 0), .lit (.int .u8 0)], .agg [.lit (.int .u8 0), .lit (.int .u8 0)], .agg [.lit (.int .u8 0), .lit (.int .u8 0)], .agg [.lit (.int .u8 0), .lit (.int .u8 0)], .agg [.lit (.int .u8 0), .lit (.int .u8 0)], .agg [.lit (.int .u8 0), .lit (.int .u8 0)], .agg [.lit (.int .u8 0), .lit (.int .u8 0)]]
def laid_errors_errorType {H : Type} : DataW H := .iface "internal/reflectlite.rtype" (.agg [.ptr (.lit (.string [101, 114, 114, 111, 114]))])
/-- One of Go's own tables, pinned by name: the form's constant. -/
def laid_unicode_utf8_first : DataW Unit := Go.Pinned.utf8First

/-- 'cardamomlaw11.ViewForms': WHATEVER THE INPUT: true; the input reads as it did. -/
def viewFormsSpec : ChangeSpec := { name := "viewForms", fn := fun _ => fun
  | [] => { results := [.lit (.bool true)], args := [] }
  | _ => none }
def viewFormsRow : OpenClaim := { program := "ytgaibmbphbmlkaagreatdoor", sum := "8c20f2e865dc51f96fb29d89b8077489fc6a00566f791886bec3a9a80ffb3076", func := "cardamom/cardamomlaw11.ViewForms", spec := "viewForms", inPlace := ["internal/bytealg.IndexByteString", "internal/reflectlite.ValueOf", "(internal/reflectlite.Value).Type", "(internal/reflectlite.Value).IsNil", "internal/reflectlite.TypeOf", "(internal/reflectlite.Value).Elem", "(internal/reflectlite.Value).Set", "internal/bytealg.IndexString"], unfollowed := true, recurses := true, named := ["errors.errorType", "unicode/utf8.first", "unicode/utf8.acceptRanges", "internal/bytealg.MaxLen"], apart := false, laid := [("unicode/utf8.acceptRanges", laid_unicode_utf8_acceptRanges), ("errors.errorType", laid_errors_errorType), ("unicode/utf8.first", laid_unicode_utf8_first)] }
def ViewFormsSaid : Prop := viewFormsRow.holds Tryz.pinned (OpenSpec.ofChange viewFormsSpec)

/-- ITS FALSE NEIGHBOUR: 'it returns false'. Refute it at one input. -/
def viewFormsWrong : ChangeSpec := { name := "viewForms", fn := fun _ => fun
  | [] => { results := [.lit (.bool false)], args := [] }
  | _ => none }
def ViewFormsWrongFalsely : Prop := viewFormsRow.holds Tryz.pinned (OpenSpec.ofChange viewFormsWrong)

/-- 'cardamomlaw14.DropForms': WHATEVER THE INPUT: true; the input reads as it did. -/
def dropFormsSpec : ChangeSpec := { name := "dropForms", fn := fun _ => fun
  | [] => { results := [.lit (.bool true)], args := [] }
  | _ => none }
def dropFormsRow : OpenClaim := { program := "ytgaibmbphbmlkaagreatdoor", sum := "8c20f2e865dc51f96fb29d89b8077489fc6a00566f791886bec3a9a80ffb3076", func := "cardamom/cardamomlaw14.DropForms", spec := "dropForms", inPlace := ["internal/bytealg.IndexByteString", "internal/reflectlite.ValueOf", "(internal/reflectlite.Value).Type", "(internal/reflectlite.Value).IsNil", "internal/reflectlite.TypeOf", "(internal/reflectlite.Value).Elem", "(internal/reflectlite.Value).Set", "internal/bytealg.IndexString"], unfollowed := true, recurses := true, named := ["errors.errorType", "unicode/utf8.first", "unicode/utf8.acceptRanges", "internal/bytealg.MaxLen"], apart := false, laid := [("unicode/utf8.acceptRanges", laid_unicode_utf8_acceptRanges), ("errors.errorType", laid_errors_errorType), ("unicode/utf8.first", laid_unicode_utf8_first)] }
def DropFormsSaid : Prop := dropFormsRow.holds Tryz.pinned (OpenSpec.ofChange dropFormsSpec)

/-- ITS FALSE NEIGHBOUR: 'it returns false'. Refute it at one input. -/
def dropFormsWrong : ChangeSpec := { name := "dropForms", fn := fun _ => fun
  | [] => { results := [.lit (.bool false)], args := [] }
  | _ => none }
def DropFormsWrongFalsely : Prop := dropFormsRow.holds Tryz.pinned (OpenSpec.ofChange dropFormsWrong)

/-- 'cardamomlaw26.GoalForms': WHATEVER THE INPUT: true; the input reads as it did. -/
def goalFormsSpec : ChangeSpec := { name := "goalForms", fn := fun _ => fun
  | [] => { results := [.lit (.bool true)], args := [] }
  | _ => none }
def goalFormsRow : OpenClaim := { program := "ytgaibmbphbmlkaagreatdoor", sum := "8c20f2e865dc51f96fb29d89b8077489fc6a00566f791886bec3a9a80ffb3076", func := "cardamom/cardamomlaw26.GoalForms", spec := "goalForms", inPlace := ["slices.overlaps[cardamom/api.Head]", "internal/bytealg.IndexByteString", "internal/reflectlite.ValueOf", "(internal/reflectlite.Value).Type", "(internal/reflectlite.Value).IsNil", "internal/reflectlite.TypeOf", "(internal/reflectlite.Value).Elem", "(internal/reflectlite.Value).Set", "internal/bytealg.IndexString", "slices.overlaps[cardamom/api.Version]"], unfollowed := true, recurses := true, named := ["errors.errorType", "unicode/utf8.first", "unicode/utf8.acceptRanges", "internal/bytealg.MaxLen"], apart := false, laid := [("unicode/utf8.acceptRanges", laid_unicode_utf8_acceptRanges), ("errors.errorType", laid_errors_errorType), ("unicode/utf8.first", laid_unicode_utf8_first)] }
def GoalFormsSaid : Prop := goalFormsRow.holds Tryz.pinned (OpenSpec.ofChange goalFormsSpec)

/-- ITS FALSE NEIGHBOUR: 'it returns false'. Refute it at one input. -/
def goalFormsWrong : ChangeSpec := { name := "goalForms", fn := fun _ => fun
  | [] => { results := [.lit (.bool false)], args := [] }
  | _ => none }
def GoalFormsWrongFalsely : Prop := goalFormsRow.holds Tryz.pinned (OpenSpec.ofChange goalFormsWrong)

/-- 'cardamomlaw12.ReplForms': WHATEVER THE INPUT: true; the input reads as it did. -/
def replFormsSpec : ChangeSpec := { name := "replForms", fn := fun _ => fun
  | [] => { results := [.lit (.bool true)], args := [] }
  | _ => none }
def replFormsRow : OpenClaim := { program := "ytgaibmbphbmlkaagreatdoor", sum := "8c20f2e865dc51f96fb29d89b8077489fc6a00566f791886bec3a9a80ffb3076", func := "cardamom/cardamomlaw12.ReplForms", spec := "replForms", inPlace := ["internal/reflectlite.TypeOf", "internal/bytealg.IndexByteString", "internal/bytealg.IndexString", "internal/reflectlite.ValueOf", "(internal/reflectlite.Value).Type", "(internal/reflectlite.Value).IsNil", "(internal/reflectlite.Value).Elem", "(internal/reflectlite.Value).Set", "slices.overlaps[cardamom/api.Version]", "slices.overlaps[cardamom/api.Head]"], unfollowed := true, recurses := true, named := ["unicode/utf8.first", "unicode/utf8.acceptRanges", "errors.errorType", "internal/bytealg.MaxLen"], apart := false, laid := [("unicode/utf8.acceptRanges", laid_unicode_utf8_acceptRanges), ("errors.errorType", laid_errors_errorType), ("unicode/utf8.first", laid_unicode_utf8_first)] }
def ReplFormsSaid : Prop := replFormsRow.holds Tryz.pinned (OpenSpec.ofChange replFormsSpec)

/-- ITS FALSE NEIGHBOUR: 'it returns false'. Refute it at one input. -/
def replFormsWrong : ChangeSpec := { name := "replForms", fn := fun _ => fun
  | [] => { results := [.lit (.bool false)], args := [] }
  | _ => none }
def ReplFormsWrongFalsely : Prop := replFormsRow.holds Tryz.pinned (OpenSpec.ofChange replFormsWrong)

/-- 'cardamomlaw25.MeshForms': WHATEVER THE INPUT: true; the input reads as it did. -/
def meshFormsSpec : ChangeSpec := { name := "meshForms", fn := fun _ => fun
  | [] => { results := [.lit (.bool true)], args := [] }
  | _ => none }
def meshFormsRow : OpenClaim := { program := "ytgaibmbphbmlkaagreatdoor", sum := "8c20f2e865dc51f96fb29d89b8077489fc6a00566f791886bec3a9a80ffb3076", func := "cardamom/cardamomlaw25.MeshForms", spec := "meshForms", inPlace := ["internal/reflectlite.TypeOf", "internal/bytealg.IndexByteString", "internal/bytealg.IndexString", "internal/reflectlite.ValueOf", "(internal/reflectlite.Value).Type", "(internal/reflectlite.Value).IsNil", "(internal/reflectlite.Value).Elem", "(internal/reflectlite.Value).Set", "slices.overlaps[cardamom/api.Version]", "slices.overlaps[cardamom/api.Head]"], unfollowed := true, recurses := true, named := ["unicode/utf8.first", "unicode/utf8.acceptRanges", "errors.errorType", "internal/bytealg.MaxLen"], apart := false, laid := [("unicode/utf8.acceptRanges", laid_unicode_utf8_acceptRanges), ("errors.errorType", laid_errors_errorType), ("unicode/utf8.first", laid_unicode_utf8_first)] }
def MeshFormsSaid : Prop := meshFormsRow.holds Tryz.pinned (OpenSpec.ofChange meshFormsSpec)

/-- ITS FALSE NEIGHBOUR: 'it returns false'. Refute it at one input. -/
def meshFormsWrong : ChangeSpec := { name := "meshForms", fn := fun _ => fun
  | [] => { results := [.lit (.bool false)], args := [] }
  | _ => none }
def MeshFormsWrongFalsely : Prop := meshFormsRow.holds Tryz.pinned (OpenSpec.ofChange meshFormsWrong)

/- THE SECOND FORM. 'bulk': how many values and letters a reading holds, each counted each time it is reached (what is shared counts as often as it is met; a slice's spare places count too). A statement '..UptoSaid' is the law's where the arguments, and the package variables that the reading takes, are together of bulk at most 1048576: NARROWER than '..Said'. Prove '..Said' where nothing that the law and all that it calls make is longer than what came in: it says more and counts as full. Else prove '..UptoSaid'. A law counts once. -/
mutual
def uptoBulk {H : Type} : DataW H → Nat
  | .lit (.string bytes) => bytes.length + 1
  | .lit _ => 1
  | .nil => 1
  | .ptr d => uptoBulk d + 1
  | .slice elems spare => uptoBulkAll elems + uptoBulkAll spare + 1
  | .agg parts => uptoBulkAll parts + 1
  | .iface _ d => uptoBulk d + 1
  | .map entries => uptoBulkEntries entries + 1
  | .held _ => 1
def uptoBulkAll {H : Type} : List (DataW H) → Nat
  | [] => 0
  | d :: r => uptoBulk d + uptoBulkAll r
def uptoBulkEntries {H : Type} : List (Lit × DataW H) → Nat
  | [] => 0
  | x :: r => uptoBulkEntry x + uptoBulkEntries r
def uptoBulkEntry {H : Type} : Lit × DataW H → Nat
  | (.string bytes, d) => bytes.length + uptoBulk d + 1
  | (_, d) => uptoBulk d + 1
 end
def uptoSmall : (H : Type) → List (DataW H) → Bool := fun _ ds => decide (uptoBulkAll ds ≤ 1048576)
def OpenSpec.upto (s : _root_.Go.ChangeSpec) : _root_.Go.OpenSpec := { _root_.Go.OpenSpec.ofChange s with cond := some uptoSmall }

/-- 'cardamomlaw11.ViewForms', WHERE WHAT IT READS IS OF BULK AT MOST 1048576: true; the input reads as it did. -/
def viewFormsUptoRow : OpenClaim := { program := "ytgaibmbphbmlkaagreatdoor", sum := "8c20f2e865dc51f96fb29d89b8077489fc6a00566f791886bec3a9a80ffb3076", func := "cardamom/cardamomlaw11.ViewForms", spec := "viewForms", inPlace := ["internal/bytealg.IndexByteString", "internal/reflectlite.ValueOf", "(internal/reflectlite.Value).Type", "(internal/reflectlite.Value).IsNil", "internal/reflectlite.TypeOf", "(internal/reflectlite.Value).Elem", "(internal/reflectlite.Value).Set", "internal/bytealg.IndexString"], unfollowed := true, recurses := true, named := ["errors.errorType", "unicode/utf8.first", "unicode/utf8.acceptRanges", "internal/bytealg.MaxLen"], apart := false, laid := [("unicode/utf8.acceptRanges", laid_unicode_utf8_acceptRanges), ("errors.errorType", laid_errors_errorType), ("unicode/utf8.first", laid_unicode_utf8_first)], narrowed := true }
def ViewFormsUptoSaid : Prop := viewFormsUptoRow.holds Tryz.pinned (OpenSpec.upto viewFormsSpec)

/-- 'cardamomlaw14.DropForms', WHERE WHAT IT READS IS OF BULK AT MOST 1048576: true; the input reads as it did. -/
def dropFormsUptoRow : OpenClaim := { program := "ytgaibmbphbmlkaagreatdoor", sum := "8c20f2e865dc51f96fb29d89b8077489fc6a00566f791886bec3a9a80ffb3076", func := "cardamom/cardamomlaw14.DropForms", spec := "dropForms", inPlace := ["internal/bytealg.IndexByteString", "internal/reflectlite.ValueOf", "(internal/reflectlite.Value).Type", "(internal/reflectlite.Value).IsNil", "internal/reflectlite.TypeOf", "(internal/reflectlite.Value).Elem", "(internal/reflectlite.Value).Set", "internal/bytealg.IndexString"], unfollowed := true, recurses := true, named := ["errors.errorType", "unicode/utf8.first", "unicode/utf8.acceptRanges", "internal/bytealg.MaxLen"], apart := false, laid := [("unicode/utf8.acceptRanges", laid_unicode_utf8_acceptRanges), ("errors.errorType", laid_errors_errorType), ("unicode/utf8.first", laid_unicode_utf8_first)], narrowed := true }
def DropFormsUptoSaid : Prop := dropFormsUptoRow.holds Tryz.pinned (OpenSpec.upto dropFormsSpec)

/-- 'cardamomlaw26.GoalForms', WHERE WHAT IT READS IS OF BULK AT MOST 1048576: true; the input reads as it did. -/
def goalFormsUptoRow : OpenClaim := { program := "ytgaibmbphbmlkaagreatdoor", sum := "8c20f2e865dc51f96fb29d89b8077489fc6a00566f791886bec3a9a80ffb3076", func := "cardamom/cardamomlaw26.GoalForms", spec := "goalForms", inPlace := ["slices.overlaps[cardamom/api.Head]", "internal/bytealg.IndexByteString", "internal/reflectlite.ValueOf", "(internal/reflectlite.Value).Type", "(internal/reflectlite.Value).IsNil", "internal/reflectlite.TypeOf", "(internal/reflectlite.Value).Elem", "(internal/reflectlite.Value).Set", "internal/bytealg.IndexString", "slices.overlaps[cardamom/api.Version]"], unfollowed := true, recurses := true, named := ["errors.errorType", "unicode/utf8.first", "unicode/utf8.acceptRanges", "internal/bytealg.MaxLen"], apart := false, laid := [("unicode/utf8.acceptRanges", laid_unicode_utf8_acceptRanges), ("errors.errorType", laid_errors_errorType), ("unicode/utf8.first", laid_unicode_utf8_first)], narrowed := true }
def GoalFormsUptoSaid : Prop := goalFormsUptoRow.holds Tryz.pinned (OpenSpec.upto goalFormsSpec)

/-- 'cardamomlaw12.ReplForms', WHERE WHAT IT READS IS OF BULK AT MOST 1048576: true; the input reads as it did. -/
def replFormsUptoRow : OpenClaim := { program := "ytgaibmbphbmlkaagreatdoor", sum := "8c20f2e865dc51f96fb29d89b8077489fc6a00566f791886bec3a9a80ffb3076", func := "cardamom/cardamomlaw12.ReplForms", spec := "replForms", inPlace := ["internal/reflectlite.TypeOf", "internal/bytealg.IndexByteString", "internal/bytealg.IndexString", "internal/reflectlite.ValueOf", "(internal/reflectlite.Value).Type", "(internal/reflectlite.Value).IsNil", "(internal/reflectlite.Value).Elem", "(internal/reflectlite.Value).Set", "slices.overlaps[cardamom/api.Version]", "slices.overlaps[cardamom/api.Head]"], unfollowed := true, recurses := true, named := ["unicode/utf8.first", "unicode/utf8.acceptRanges", "errors.errorType", "internal/bytealg.MaxLen"], apart := false, laid := [("unicode/utf8.acceptRanges", laid_unicode_utf8_acceptRanges), ("errors.errorType", laid_errors_errorType), ("unicode/utf8.first", laid_unicode_utf8_first)], narrowed := true }
def ReplFormsUptoSaid : Prop := replFormsUptoRow.holds Tryz.pinned (OpenSpec.upto replFormsSpec)

/-- 'cardamomlaw25.MeshForms', WHERE WHAT IT READS IS OF BULK AT MOST 1048576: true; the input reads as it did. -/
def meshFormsUptoRow : OpenClaim := { program := "ytgaibmbphbmlkaagreatdoor", sum := "8c20f2e865dc51f96fb29d89b8077489fc6a00566f791886bec3a9a80ffb3076", func := "cardamom/cardamomlaw25.MeshForms", spec := "meshForms", inPlace := ["internal/reflectlite.TypeOf", "internal/bytealg.IndexByteString", "internal/bytealg.IndexString", "internal/reflectlite.ValueOf", "(internal/reflectlite.Value).Type", "(internal/reflectlite.Value).IsNil", "(internal/reflectlite.Value).Elem", "(internal/reflectlite.Value).Set", "slices.overlaps[cardamom/api.Version]", "slices.overlaps[cardamom/api.Head]"], unfollowed := true, recurses := true, named := ["unicode/utf8.first", "unicode/utf8.acceptRanges", "errors.errorType", "internal/bytealg.MaxLen"], apart := false, laid := [("unicode/utf8.acceptRanges", laid_unicode_utf8_acceptRanges), ("errors.errorType", laid_errors_errorType), ("unicode/utf8.first", laid_unicode_utf8_first)], narrowed := true }
def MeshFormsUptoSaid : Prop := meshFormsUptoRow.holds Tryz.pinned (OpenSpec.upto meshFormsSpec)

end Rows
end Go.Proofs.YtgaibmbphbmlkaaGreatDoor
