/-
  NARROWER THAN 'FOR EVERY INPUT', by the rows' own cells (each row's printed sentence says how): DropAll: laid · DropSafe: laid · DropTwice: laid · TakeTwice: laid · TakeHolds: laid · TakeGrows: laid · TakeWrong: laid · TakeEpoch: laid · TakeNews: laid · ReplStamps: laid · ReplWrong: laid · ReplAsks: laid.
  DERIVED. THE GIVEN ROWS OF THIS SEAT. 12 by the template 'for every input the law returns true; each argument reads behind the call as it read before'; 0 by the template 'total and deterministic' (their statements: YtmhceknpmokahaaGreatDoorTotals.lean).
  GIVEN WITH THE SEED: the statements are not yours to turn. If you find one false, say at which input.
  Laid BY PROGRAM, IN A SANDBOX (cutbox-rows.mjs): the forced cells as the released guide's own fill.sh prints them over the translation 86174b18b227870c… (all of the seat's roots in one cut). By AI agents, Wed Nov 11 2026. No macro, syntax, notation, axiom, sorry.
-/
import Derived.Test.YtmhceknpmokahaaGreatDoorChecked
import GoSem.PinnedTables
import GoSem.Claim
import GoSem.ClaimJoined
import GoSem.ClaimMapViews
import Derived.JoinedTies
import Derived.KernelRfl
namespace Go.Proofs.YtmhceknpmokahaaGreatDoor
/- THE CELL 'sum', in the pinned program and in every row, IS THE sha256 OF THE DUMP (.gsa) THAT YtmhceknpmokahaaGreatDoorProg.lean LOADS. Nothing in Lean hashes anything: it is a label: what it is worth is what the hold of that sum in a sandbox is worth. -/
noncomputable def Tryz.pinned : Pinned := { name := "ytmhceknpmokahaagreatdoor", sum := "86174b18b227870cb4937fafed760e0692ab1748f5e86b23f2b825ef92d215af", checked := Tryz.checked }
namespace Rows
def none {H : Type} : Left H := { results := [], args := [] }

/- WHAT THE LISTED PACKAGE-LEVEL VARIABLES READ AS WHEN THE CALL BEGINS. Each datum BY PROGRAM (the guide's laid-datum.mjs) off the statement by which the dump's own 'gosem.cut.vars' lays the variable. In a bare row this is a premise. The card (YtmhceknpmokahaaGreatDoorCards.lean) ties it to the program's text. -/
def laid_unicode_utf8_acceptRanges {H : Type} : DataW H := .agg [.agg [.lit (.int .u8 128), .lit (.int .u8 191)], .agg [.lit (.int .u8 160), .lit (.int .u8 191)], .agg [.lit (.int .u8 128), .lit (.int .u8 159)], .agg [.lit (.int .u8 144), .lit (.int .u8 191)], .agg [.lit (.int .u8 128), .lit (.int .u8 143)], .agg [.lit (.int .u8 0), .lit (.int .u8 0)], .agg [.lit (.int .u8 0), .lit (.int .u8 0)], .agg [.lit (.int .u8 0), .lit (.int .u8 0)], .agg [.lit (.int .u8 0), .lit (.int .u8 0)], .agg [.lit (.int .u8 0), .lit (.int .u8 0)], .agg [.lit (.int .u8 0), .lit (.int .u8 0)], .agg [.lit (.int .u8 0), .lit (.int .u8 0)], .agg [.lit (.int .u8 0), .lit (.int .u8 0)], .agg [.lit (.int .u8 0), .lit (.int .u8 0)], .agg [.lit (.int .u8 0), .lit (.int .u8 0)], .agg [.lit (.int .u8 0), .lit (.int .u8 0)]]
def laid_errors_errorType {H : Type} : DataW H := .iface "internal/reflectlite.rtype" (.agg [.ptr (.lit (.string [101, 114, 114, 111, 114]))])
/-- One of Go's own tables, pinned by name: the form's constant. -/
def laid_unicode_utf8_first : DataW Unit := Go.Pinned.utf8First

/-- 'cardamomlaw14.DropAll': WHATEVER THE INPUT: true; the input reads as it did. -/
def dropAllSpec : ChangeSpec := { name := "dropAll", fn := fun _ => fun
  | [d1, d2] => { results := [.lit (.bool true)], args := [d1, d2] }
  | _ => none }
def dropAllRow : OpenClaim := { program := "ytmhceknpmokahaagreatdoor", sum := "86174b18b227870cb4937fafed760e0692ab1748f5e86b23f2b825ef92d215af", func := "cardamom/cardamomlaw14.DropAll", spec := "dropAll", inPlace := ["internal/bytealg.IndexByteString", "internal/reflectlite.ValueOf", "(internal/reflectlite.Value).Type", "(internal/reflectlite.Value).IsNil", "internal/reflectlite.TypeOf", "(internal/reflectlite.Value).Elem", "(internal/reflectlite.Value).Set", "internal/bytealg.IndexString"], unfollowed := true, recurses := true, named := ["errors.errorType", "unicode/utf8.first", "unicode/utf8.acceptRanges", "internal/bytealg.MaxLen"], apart := false, laid := [("unicode/utf8.acceptRanges", laid_unicode_utf8_acceptRanges), ("errors.errorType", laid_errors_errorType), ("unicode/utf8.first", laid_unicode_utf8_first)] }
def DropAllSaid : Prop := dropAllRow.holds Tryz.pinned (OpenSpec.ofChange dropAllSpec)

/-- ITS FALSE NEIGHBOUR: 'it returns false'. Refute it at one input. -/
def dropAllWrong : ChangeSpec := { name := "dropAll", fn := fun _ => fun
  | [d1, d2] => { results := [.lit (.bool false)], args := [d1, d2] }
  | _ => none }
def DropAllWrongFalsely : Prop := dropAllRow.holds Tryz.pinned (OpenSpec.ofChange dropAllWrong)

/-- 'cardamomlaw14.DropSafe': WHATEVER THE INPUT: true; the input reads as it did. -/
def dropSafeSpec : ChangeSpec := { name := "dropSafe", fn := fun _ => fun
  | [d] => { results := [.lit (.bool true)], args := [d] }
  | _ => none }
def dropSafeRow : OpenClaim := { program := "ytmhceknpmokahaagreatdoor", sum := "86174b18b227870cb4937fafed760e0692ab1748f5e86b23f2b825ef92d215af", func := "cardamom/cardamomlaw14.DropSafe", spec := "dropSafe", inPlace := ["internal/bytealg.IndexByteString", "internal/reflectlite.ValueOf", "(internal/reflectlite.Value).Type", "(internal/reflectlite.Value).IsNil", "internal/reflectlite.TypeOf", "(internal/reflectlite.Value).Elem", "(internal/reflectlite.Value).Set", "internal/bytealg.IndexString"], unfollowed := true, recurses := true, named := ["errors.errorType", "unicode/utf8.first", "unicode/utf8.acceptRanges", "internal/bytealg.MaxLen"], apart := false, laid := [("unicode/utf8.acceptRanges", laid_unicode_utf8_acceptRanges), ("errors.errorType", laid_errors_errorType), ("unicode/utf8.first", laid_unicode_utf8_first)] }
def DropSafeSaid : Prop := dropSafeRow.holds Tryz.pinned (OpenSpec.ofChange dropSafeSpec)

/-- ITS FALSE NEIGHBOUR: 'it returns false'. Refute it at one input. -/
def dropSafeWrong : ChangeSpec := { name := "dropSafe", fn := fun _ => fun
  | [d] => { results := [.lit (.bool false)], args := [d] }
  | _ => none }
def DropSafeWrongFalsely : Prop := dropSafeRow.holds Tryz.pinned (OpenSpec.ofChange dropSafeWrong)

/-- 'cardamomlaw14.DropTwice': WHATEVER THE INPUT: true; the input reads as it did. -/
def dropTwiceSpec : ChangeSpec := { name := "dropTwice", fn := fun _ => fun
  | [d] => { results := [.lit (.bool true)], args := [d] }
  | _ => none }
def dropTwiceRow : OpenClaim := { program := "ytmhceknpmokahaagreatdoor", sum := "86174b18b227870cb4937fafed760e0692ab1748f5e86b23f2b825ef92d215af", func := "cardamom/cardamomlaw14.DropTwice", spec := "dropTwice", inPlace := ["internal/bytealg.IndexByteString", "internal/reflectlite.ValueOf", "(internal/reflectlite.Value).Type", "(internal/reflectlite.Value).IsNil", "internal/reflectlite.TypeOf", "(internal/reflectlite.Value).Elem", "(internal/reflectlite.Value).Set", "internal/bytealg.IndexString"], unfollowed := true, recurses := true, named := ["errors.errorType", "unicode/utf8.first", "unicode/utf8.acceptRanges", "internal/bytealg.MaxLen"], apart := false, laid := [("unicode/utf8.acceptRanges", laid_unicode_utf8_acceptRanges), ("errors.errorType", laid_errors_errorType), ("unicode/utf8.first", laid_unicode_utf8_first)] }
def DropTwiceSaid : Prop := dropTwiceRow.holds Tryz.pinned (OpenSpec.ofChange dropTwiceSpec)

/-- ITS FALSE NEIGHBOUR: 'it returns false'. Refute it at one input. -/
def dropTwiceWrong : ChangeSpec := { name := "dropTwice", fn := fun _ => fun
  | [d] => { results := [.lit (.bool false)], args := [d] }
  | _ => none }
def DropTwiceWrongFalsely : Prop := dropTwiceRow.holds Tryz.pinned (OpenSpec.ofChange dropTwiceWrong)

/-- 'cardamomlaw15.TakeTwice': WHATEVER THE INPUT: true; the input reads as it did. -/
def takeTwiceSpec : ChangeSpec := { name := "takeTwice", fn := fun _ => fun
  | [d] => { results := [.lit (.bool true)], args := [d] }
  | _ => none }
def takeTwiceRow : OpenClaim := { program := "ytmhceknpmokahaagreatdoor", sum := "86174b18b227870cb4937fafed760e0692ab1748f5e86b23f2b825ef92d215af", func := "cardamom/cardamomlaw15.TakeTwice", spec := "takeTwice", inPlace := ["internal/bytealg.IndexByteString", "internal/reflectlite.ValueOf", "(internal/reflectlite.Value).Type", "(internal/reflectlite.Value).IsNil", "internal/reflectlite.TypeOf", "(internal/reflectlite.Value).Elem", "(internal/reflectlite.Value).Set", "internal/bytealg.IndexString", "slices.overlaps[cardamom/api.Version]", "slices.overlaps[cardamom/api.Head]"], unfollowed := true, recurses := true, named := ["errors.errorType", "unicode/utf8.first", "unicode/utf8.acceptRanges", "internal/bytealg.MaxLen"], apart := false, laid := [("unicode/utf8.acceptRanges", laid_unicode_utf8_acceptRanges), ("errors.errorType", laid_errors_errorType), ("unicode/utf8.first", laid_unicode_utf8_first)] }
def TakeTwiceSaid : Prop := takeTwiceRow.holds Tryz.pinned (OpenSpec.ofChange takeTwiceSpec)

/-- ITS FALSE NEIGHBOUR: 'it returns false'. Refute it at one input. -/
def takeTwiceWrong : ChangeSpec := { name := "takeTwice", fn := fun _ => fun
  | [d] => { results := [.lit (.bool false)], args := [d] }
  | _ => none }
def TakeTwiceWrongFalsely : Prop := takeTwiceRow.holds Tryz.pinned (OpenSpec.ofChange takeTwiceWrong)

/-- 'cardamomlaw15.TakeHolds': WHATEVER THE INPUT: true; the input reads as it did. -/
def takeHoldsSpec : ChangeSpec := { name := "takeHolds", fn := fun _ => fun
  | [d] => { results := [.lit (.bool true)], args := [d] }
  | _ => none }
def takeHoldsRow : OpenClaim := { program := "ytmhceknpmokahaagreatdoor", sum := "86174b18b227870cb4937fafed760e0692ab1748f5e86b23f2b825ef92d215af", func := "cardamom/cardamomlaw15.TakeHolds", spec := "takeHolds", inPlace := ["internal/bytealg.IndexByteString", "internal/reflectlite.ValueOf", "(internal/reflectlite.Value).Type", "(internal/reflectlite.Value).IsNil", "internal/reflectlite.TypeOf", "(internal/reflectlite.Value).Elem", "(internal/reflectlite.Value).Set", "internal/bytealg.IndexString", "slices.overlaps[cardamom/api.Version]", "slices.overlaps[cardamom/api.Head]"], unfollowed := true, recurses := true, named := ["errors.errorType", "unicode/utf8.first", "unicode/utf8.acceptRanges", "internal/bytealg.MaxLen"], apart := false, laid := [("unicode/utf8.acceptRanges", laid_unicode_utf8_acceptRanges), ("errors.errorType", laid_errors_errorType), ("unicode/utf8.first", laid_unicode_utf8_first)] }
def TakeHoldsSaid : Prop := takeHoldsRow.holds Tryz.pinned (OpenSpec.ofChange takeHoldsSpec)

/-- ITS FALSE NEIGHBOUR: 'it returns false'. Refute it at one input. -/
def takeHoldsWrong : ChangeSpec := { name := "takeHolds", fn := fun _ => fun
  | [d] => { results := [.lit (.bool false)], args := [d] }
  | _ => none }
def TakeHoldsWrongFalsely : Prop := takeHoldsRow.holds Tryz.pinned (OpenSpec.ofChange takeHoldsWrong)

/-- 'cardamomlaw15.TakeGrows': WHATEVER THE INPUT: true; the input reads as it did. -/
def takeGrowsSpec : ChangeSpec := { name := "takeGrows", fn := fun _ => fun
  | [d] => { results := [.lit (.bool true)], args := [d] }
  | _ => none }
def takeGrowsRow : OpenClaim := { program := "ytmhceknpmokahaagreatdoor", sum := "86174b18b227870cb4937fafed760e0692ab1748f5e86b23f2b825ef92d215af", func := "cardamom/cardamomlaw15.TakeGrows", spec := "takeGrows", inPlace := ["internal/bytealg.IndexByteString", "internal/reflectlite.ValueOf", "(internal/reflectlite.Value).Type", "(internal/reflectlite.Value).IsNil", "internal/reflectlite.TypeOf", "(internal/reflectlite.Value).Elem", "(internal/reflectlite.Value).Set", "internal/bytealg.IndexString", "slices.overlaps[cardamom/api.Version]", "slices.overlaps[cardamom/api.Head]"], unfollowed := true, recurses := true, named := ["errors.errorType", "unicode/utf8.first", "unicode/utf8.acceptRanges", "internal/bytealg.MaxLen"], apart := false, laid := [("unicode/utf8.acceptRanges", laid_unicode_utf8_acceptRanges), ("errors.errorType", laid_errors_errorType), ("unicode/utf8.first", laid_unicode_utf8_first)] }
def TakeGrowsSaid : Prop := takeGrowsRow.holds Tryz.pinned (OpenSpec.ofChange takeGrowsSpec)

/-- ITS FALSE NEIGHBOUR: 'it returns false'. Refute it at one input. -/
def takeGrowsWrong : ChangeSpec := { name := "takeGrows", fn := fun _ => fun
  | [d] => { results := [.lit (.bool false)], args := [d] }
  | _ => none }
def TakeGrowsWrongFalsely : Prop := takeGrowsRow.holds Tryz.pinned (OpenSpec.ofChange takeGrowsWrong)

/-- 'cardamomlaw15.TakeWrong': WHATEVER THE INPUT: true; the input reads as it did. -/
def takeWrongSpec : ChangeSpec := { name := "takeWrong", fn := fun _ => fun
  | [d1, d2, d3] => { results := [.lit (.bool true)], args := [d1, d2, d3] }
  | _ => none }
def takeWrongRow : OpenClaim := { program := "ytmhceknpmokahaagreatdoor", sum := "86174b18b227870cb4937fafed760e0692ab1748f5e86b23f2b825ef92d215af", func := "cardamom/cardamomlaw15.TakeWrong", spec := "takeWrong", inPlace := ["internal/bytealg.IndexByteString", "internal/reflectlite.ValueOf", "(internal/reflectlite.Value).Type", "(internal/reflectlite.Value).IsNil", "internal/reflectlite.TypeOf", "(internal/reflectlite.Value).Elem", "(internal/reflectlite.Value).Set", "internal/bytealg.IndexString", "slices.overlaps[cardamom/api.Version]", "slices.overlaps[cardamom/api.Head]"], unfollowed := true, recurses := true, named := ["errors.errorType", "unicode/utf8.first", "unicode/utf8.acceptRanges", "internal/bytealg.MaxLen"], apart := false, laid := [("unicode/utf8.acceptRanges", laid_unicode_utf8_acceptRanges), ("errors.errorType", laid_errors_errorType), ("unicode/utf8.first", laid_unicode_utf8_first)] }
def TakeWrongSaid : Prop := takeWrongRow.holds Tryz.pinned (OpenSpec.ofChange takeWrongSpec)

/-- ITS FALSE NEIGHBOUR: 'it returns false'. Refute it at one input. -/
def takeWrongWrong : ChangeSpec := { name := "takeWrong", fn := fun _ => fun
  | [d1, d2, d3] => { results := [.lit (.bool false)], args := [d1, d2, d3] }
  | _ => none }
def TakeWrongWrongFalsely : Prop := takeWrongRow.holds Tryz.pinned (OpenSpec.ofChange takeWrongWrong)

/-- 'cardamomlaw15.TakeEpoch': WHATEVER THE INPUT: true; the input reads as it did. -/
def takeEpochSpec : ChangeSpec := { name := "takeEpoch", fn := fun _ => fun
  | [d1, d2, d3] => { results := [.lit (.bool true)], args := [d1, d2, d3] }
  | _ => none }
def takeEpochRow : OpenClaim := { program := "ytmhceknpmokahaagreatdoor", sum := "86174b18b227870cb4937fafed760e0692ab1748f5e86b23f2b825ef92d215af", func := "cardamom/cardamomlaw15.TakeEpoch", spec := "takeEpoch", inPlace := ["internal/bytealg.IndexByteString", "internal/reflectlite.ValueOf", "(internal/reflectlite.Value).Type", "(internal/reflectlite.Value).IsNil", "internal/reflectlite.TypeOf", "(internal/reflectlite.Value).Elem", "(internal/reflectlite.Value).Set", "internal/bytealg.IndexString", "slices.overlaps[cardamom/api.Version]", "slices.overlaps[cardamom/api.Head]"], unfollowed := true, recurses := true, named := ["errors.errorType", "unicode/utf8.first", "unicode/utf8.acceptRanges", "internal/bytealg.MaxLen"], apart := false, laid := [("unicode/utf8.acceptRanges", laid_unicode_utf8_acceptRanges), ("errors.errorType", laid_errors_errorType), ("unicode/utf8.first", laid_unicode_utf8_first)] }
def TakeEpochSaid : Prop := takeEpochRow.holds Tryz.pinned (OpenSpec.ofChange takeEpochSpec)

/-- ITS FALSE NEIGHBOUR: 'it returns false'. Refute it at one input. -/
def takeEpochWrong : ChangeSpec := { name := "takeEpoch", fn := fun _ => fun
  | [d1, d2, d3] => { results := [.lit (.bool false)], args := [d1, d2, d3] }
  | _ => none }
def TakeEpochWrongFalsely : Prop := takeEpochRow.holds Tryz.pinned (OpenSpec.ofChange takeEpochWrong)

/-- 'cardamomlaw15.TakeNews': WHATEVER THE INPUT: true; the input reads as it did. -/
def takeNewsSpec : ChangeSpec := { name := "takeNews", fn := fun _ => fun
  | [d] => { results := [.lit (.bool true)], args := [d] }
  | _ => none }
def takeNewsRow : OpenClaim := { program := "ytmhceknpmokahaagreatdoor", sum := "86174b18b227870cb4937fafed760e0692ab1748f5e86b23f2b825ef92d215af", func := "cardamom/cardamomlaw15.TakeNews", spec := "takeNews", inPlace := ["internal/bytealg.IndexByteString", "internal/reflectlite.ValueOf", "(internal/reflectlite.Value).Type", "(internal/reflectlite.Value).IsNil", "internal/reflectlite.TypeOf", "(internal/reflectlite.Value).Elem", "(internal/reflectlite.Value).Set", "internal/bytealg.IndexString", "slices.overlaps[cardamom/api.Version]", "slices.overlaps[cardamom/api.Head]"], unfollowed := true, recurses := true, named := ["errors.errorType", "unicode/utf8.first", "unicode/utf8.acceptRanges", "internal/bytealg.MaxLen"], apart := false, laid := [("unicode/utf8.acceptRanges", laid_unicode_utf8_acceptRanges), ("errors.errorType", laid_errors_errorType), ("unicode/utf8.first", laid_unicode_utf8_first)] }
def TakeNewsSaid : Prop := takeNewsRow.holds Tryz.pinned (OpenSpec.ofChange takeNewsSpec)

/-- ITS FALSE NEIGHBOUR: 'it returns false'. Refute it at one input. -/
def takeNewsWrong : ChangeSpec := { name := "takeNews", fn := fun _ => fun
  | [d] => { results := [.lit (.bool false)], args := [d] }
  | _ => none }
def TakeNewsWrongFalsely : Prop := takeNewsRow.holds Tryz.pinned (OpenSpec.ofChange takeNewsWrong)

/-- 'cardamomlaw12.ReplStamps': WHATEVER THE INPUT: true; the input reads as it did. -/
def replStampsSpec : ChangeSpec := { name := "replStamps", fn := fun _ => fun
  | [d1, d2] => { results := [.lit (.bool true)], args := [d1, d2] }
  | _ => none }
def replStampsRow : OpenClaim := { program := "ytmhceknpmokahaagreatdoor", sum := "86174b18b227870cb4937fafed760e0692ab1748f5e86b23f2b825ef92d215af", func := "cardamom/cardamomlaw12.ReplStamps", spec := "replStamps", inPlace := ["internal/reflectlite.TypeOf", "internal/bytealg.IndexByteString", "internal/bytealg.IndexString", "internal/reflectlite.ValueOf", "(internal/reflectlite.Value).Type", "(internal/reflectlite.Value).IsNil", "(internal/reflectlite.Value).Elem", "(internal/reflectlite.Value).Set", "slices.overlaps[cardamom/api.Version]", "slices.overlaps[cardamom/api.Head]"], unfollowed := true, recurses := true, named := ["unicode/utf8.first", "unicode/utf8.acceptRanges", "errors.errorType", "internal/bytealg.MaxLen"], apart := false, laid := [("unicode/utf8.acceptRanges", laid_unicode_utf8_acceptRanges), ("errors.errorType", laid_errors_errorType), ("unicode/utf8.first", laid_unicode_utf8_first)] }
def ReplStampsSaid : Prop := replStampsRow.holds Tryz.pinned (OpenSpec.ofChange replStampsSpec)

/-- ITS FALSE NEIGHBOUR: 'it returns false'. Refute it at one input. -/
def replStampsWrong : ChangeSpec := { name := "replStamps", fn := fun _ => fun
  | [d1, d2] => { results := [.lit (.bool false)], args := [d1, d2] }
  | _ => none }
def ReplStampsWrongFalsely : Prop := replStampsRow.holds Tryz.pinned (OpenSpec.ofChange replStampsWrong)

/-- 'cardamomlaw12.ReplWrong': WHATEVER THE INPUT: true; the input reads as it did. -/
def replWrongSpec : ChangeSpec := { name := "replWrong", fn := fun _ => fun
  | [d1, d2] => { results := [.lit (.bool true)], args := [d1, d2] }
  | _ => none }
def replWrongRow : OpenClaim := { program := "ytmhceknpmokahaagreatdoor", sum := "86174b18b227870cb4937fafed760e0692ab1748f5e86b23f2b825ef92d215af", func := "cardamom/cardamomlaw12.ReplWrong", spec := "replWrong", inPlace := ["internal/reflectlite.TypeOf", "internal/bytealg.IndexByteString", "internal/bytealg.IndexString", "internal/reflectlite.ValueOf", "(internal/reflectlite.Value).Type", "(internal/reflectlite.Value).IsNil", "(internal/reflectlite.Value).Elem", "(internal/reflectlite.Value).Set", "slices.overlaps[cardamom/api.Version]", "slices.overlaps[cardamom/api.Head]"], unfollowed := true, recurses := true, named := ["unicode/utf8.first", "unicode/utf8.acceptRanges", "errors.errorType", "internal/bytealg.MaxLen"], apart := false, laid := [("unicode/utf8.acceptRanges", laid_unicode_utf8_acceptRanges), ("errors.errorType", laid_errors_errorType), ("unicode/utf8.first", laid_unicode_utf8_first)] }
def ReplWrongSaid : Prop := replWrongRow.holds Tryz.pinned (OpenSpec.ofChange replWrongSpec)

/-- ITS FALSE NEIGHBOUR: 'it returns false'. Refute it at one input. -/
def replWrongWrong : ChangeSpec := { name := "replWrong", fn := fun _ => fun
  | [d1, d2] => { results := [.lit (.bool false)], args := [d1, d2] }
  | _ => none }
def ReplWrongWrongFalsely : Prop := replWrongRow.holds Tryz.pinned (OpenSpec.ofChange replWrongWrong)

/-- 'cardamomlaw12.ReplAsks': WHATEVER THE INPUT: true; the input reads as it did. -/
def replAsksSpec : ChangeSpec := { name := "replAsks", fn := fun _ => fun
  | [d1, d2, d3, d4, d5, d6] => { results := [.lit (.bool true)], args := [d1, d2, d3, d4, d5, d6] }
  | _ => none }
def replAsksRow : OpenClaim := { program := "ytmhceknpmokahaagreatdoor", sum := "86174b18b227870cb4937fafed760e0692ab1748f5e86b23f2b825ef92d215af", func := "cardamom/cardamomlaw12.ReplAsks", spec := "replAsks", inPlace := ["internal/reflectlite.TypeOf", "internal/bytealg.IndexByteString", "internal/bytealg.IndexString", "internal/reflectlite.ValueOf", "(internal/reflectlite.Value).Type", "(internal/reflectlite.Value).IsNil", "(internal/reflectlite.Value).Elem", "(internal/reflectlite.Value).Set", "slices.overlaps[cardamom/api.Version]", "slices.overlaps[cardamom/api.Head]"], unfollowed := true, recurses := true, named := ["unicode/utf8.first", "unicode/utf8.acceptRanges", "errors.errorType", "internal/bytealg.MaxLen"], apart := false, laid := [("unicode/utf8.acceptRanges", laid_unicode_utf8_acceptRanges), ("errors.errorType", laid_errors_errorType), ("unicode/utf8.first", laid_unicode_utf8_first)] }
def ReplAsksSaid : Prop := replAsksRow.holds Tryz.pinned (OpenSpec.ofChange replAsksSpec)

/-- ITS FALSE NEIGHBOUR: 'it returns false'. Refute it at one input. -/
def replAsksWrong : ChangeSpec := { name := "replAsks", fn := fun _ => fun
  | [d1, d2, d3, d4, d5, d6] => { results := [.lit (.bool false)], args := [d1, d2, d3, d4, d5, d6] }
  | _ => none }
def ReplAsksWrongFalsely : Prop := replAsksRow.holds Tryz.pinned (OpenSpec.ofChange replAsksWrong)

/- THE SECOND FORM. 'bulk': how many values and letters a reading holds, each counted each time it is reached (what is shared counts as often as it is met; a slice's spare places count too). A statement '..UptoSaid' is the law's where the arguments, and the package variables that the reading takes, are together of bulk at most 1048576: NARROWER than '..Said'. Prove '..Said' where nothing that the law and all that it calls make is longer than what came in: it says more and counts as full. Else prove '..UptoSaid'. A law counts once. -/
mutual
def uptoBulk {H : Type} : DataW H → Nat
  | .lit (.string bytes) => bytes.length + 1
  | .lit _ => 1
  | .nil => 1
  | .ptr d => uptoBulk d + 1
  | .slice elems spare => uptoBulkAll elems + uptoBulkAll spare + 1
  | .agg parts => uptoBulkAll parts + 1
  | .iface _ d => uptoBulk d + 1
  | .map entries => uptoBulkEntries entries + 1
  | .held _ => 1
def uptoBulkAll {H : Type} : List (DataW H) → Nat
  | [] => 0
  | d :: r => uptoBulk d + uptoBulkAll r
def uptoBulkEntries {H : Type} : List (Lit × DataW H) → Nat
  | [] => 0
  | x :: r => uptoBulkEntry x + uptoBulkEntries r
def uptoBulkEntry {H : Type} : Lit × DataW H → Nat
  | (.string bytes, d) => bytes.length + uptoBulk d + 1
  | (_, d) => uptoBulk d + 1
 end
def uptoSmall : (H : Type) → List (DataW H) → Bool := fun _ ds => decide (uptoBulkAll ds ≤ 1048576)
def OpenSpec.upto (s : _root_.Go.ChangeSpec) : _root_.Go.OpenSpec := { _root_.Go.OpenSpec.ofChange s with cond := some uptoSmall }

/-- 'cardamomlaw14.DropAll', WHERE WHAT IT READS IS OF BULK AT MOST 1048576: true; the input reads as it did. -/
def dropAllUptoRow : OpenClaim := { program := "ytmhceknpmokahaagreatdoor", sum := "86174b18b227870cb4937fafed760e0692ab1748f5e86b23f2b825ef92d215af", func := "cardamom/cardamomlaw14.DropAll", spec := "dropAll", inPlace := ["internal/bytealg.IndexByteString", "internal/reflectlite.ValueOf", "(internal/reflectlite.Value).Type", "(internal/reflectlite.Value).IsNil", "internal/reflectlite.TypeOf", "(internal/reflectlite.Value).Elem", "(internal/reflectlite.Value).Set", "internal/bytealg.IndexString"], unfollowed := true, recurses := true, named := ["errors.errorType", "unicode/utf8.first", "unicode/utf8.acceptRanges", "internal/bytealg.MaxLen"], apart := false, laid := [("unicode/utf8.acceptRanges", laid_unicode_utf8_acceptRanges), ("errors.errorType", laid_errors_errorType), ("unicode/utf8.first", laid_unicode_utf8_first)], narrowed := true }
def DropAllUptoSaid : Prop := dropAllUptoRow.holds Tryz.pinned (OpenSpec.upto dropAllSpec)

/-- 'cardamomlaw14.DropSafe', WHERE WHAT IT READS IS OF BULK AT MOST 1048576: true; the input reads as it did. -/
def dropSafeUptoRow : OpenClaim := { program := "ytmhceknpmokahaagreatdoor", sum := "86174b18b227870cb4937fafed760e0692ab1748f5e86b23f2b825ef92d215af", func := "cardamom/cardamomlaw14.DropSafe", spec := "dropSafe", inPlace := ["internal/bytealg.IndexByteString", "internal/reflectlite.ValueOf", "(internal/reflectlite.Value).Type", "(internal/reflectlite.Value).IsNil", "internal/reflectlite.TypeOf", "(internal/reflectlite.Value).Elem", "(internal/reflectlite.Value).Set", "internal/bytealg.IndexString"], unfollowed := true, recurses := true, named := ["errors.errorType", "unicode/utf8.first", "unicode/utf8.acceptRanges", "internal/bytealg.MaxLen"], apart := false, laid := [("unicode/utf8.acceptRanges", laid_unicode_utf8_acceptRanges), ("errors.errorType", laid_errors_errorType), ("unicode/utf8.first", laid_unicode_utf8_first)], narrowed := true }
def DropSafeUptoSaid : Prop := dropSafeUptoRow.holds Tryz.pinned (OpenSpec.upto dropSafeSpec)

/-- 'cardamomlaw14.DropTwice', WHERE WHAT IT READS IS OF BULK AT MOST 1048576: true; the input reads as it did. -/
def dropTwiceUptoRow : OpenClaim := { program := "ytmhceknpmokahaagreatdoor", sum := "86174b18b227870cb4937fafed760e0692ab1748f5e86b23f2b825ef92d215af", func := "cardamom/cardamomlaw14.DropTwice", spec := "dropTwice", inPlace := ["internal/bytealg.IndexByteString", "internal/reflectlite.ValueOf", "(internal/reflectlite.Value).Type", "(internal/reflectlite.Value).IsNil", "internal/reflectlite.TypeOf", "(internal/reflectlite.Value).Elem", "(internal/reflectlite.Value).Set", "internal/bytealg.IndexString"], unfollowed := true, recurses := true, named := ["errors.errorType", "unicode/utf8.first", "unicode/utf8.acceptRanges", "internal/bytealg.MaxLen"], apart := false, laid := [("unicode/utf8.acceptRanges", laid_unicode_utf8_acceptRanges), ("errors.errorType", laid_errors_errorType), ("unicode/utf8.first", laid_unicode_utf8_first)], narrowed := true }
def DropTwiceUptoSaid : Prop := dropTwiceUptoRow.holds Tryz.pinned (OpenSpec.upto dropTwiceSpec)

/-- 'cardamomlaw15.TakeTwice', WHERE WHAT IT READS IS OF BULK AT MOST 1048576: true; the input reads as it did. -/
def takeTwiceUptoRow : OpenClaim := { program := "ytmhceknpmokahaagreatdoor", sum := "86174b18b227870cb4937fafed760e0692ab1748f5e86b23f2b825ef92d215af", func := "cardamom/cardamomlaw15.TakeTwice", spec := "takeTwice", inPlace := ["internal/bytealg.IndexByteString", "internal/reflectlite.ValueOf", "(internal/reflectlite.Value).Type", "(internal/reflectlite.Value).IsNil", "internal/reflectlite.TypeOf", "(internal/reflectlite.Value).Elem", "(internal/reflectlite.Value).Set", "internal/bytealg.IndexString", "slices.overlaps[cardamom/api.Version]", "slices.overlaps[cardamom/api.Head]"], unfollowed := true, recurses := true, named := ["errors.errorType", "unicode/utf8.first", "unicode/utf8.acceptRanges", "internal/bytealg.MaxLen"], apart := false, laid := [("unicode/utf8.acceptRanges", laid_unicode_utf8_acceptRanges), ("errors.errorType", laid_errors_errorType), ("unicode/utf8.first", laid_unicode_utf8_first)], narrowed := true }
def TakeTwiceUptoSaid : Prop := takeTwiceUptoRow.holds Tryz.pinned (OpenSpec.upto takeTwiceSpec)

/-- 'cardamomlaw15.TakeHolds', WHERE WHAT IT READS IS OF BULK AT MOST 1048576: true; the input reads as it did. -/
def takeHoldsUptoRow : OpenClaim := { program := "ytmhceknpmokahaagreatdoor", sum := "86174b18b227870cb4937fafed760e0692ab1748f5e86b23f2b825ef92d215af", func := "cardamom/cardamomlaw15.TakeHolds", spec := "takeHolds", inPlace := ["internal/bytealg.IndexByteString", "internal/reflectlite.ValueOf", "(internal/reflectlite.Value).Type", "(internal/reflectlite.Value).IsNil", "internal/reflectlite.TypeOf", "(internal/reflectlite.Value).Elem", "(internal/reflectlite.Value).Set", "internal/bytealg.IndexString", "slices.overlaps[cardamom/api.Version]", "slices.overlaps[cardamom/api.Head]"], unfollowed := true, recurses := true, named := ["errors.errorType", "unicode/utf8.first", "unicode/utf8.acceptRanges", "internal/bytealg.MaxLen"], apart := false, laid := [("unicode/utf8.acceptRanges", laid_unicode_utf8_acceptRanges), ("errors.errorType", laid_errors_errorType), ("unicode/utf8.first", laid_unicode_utf8_first)], narrowed := true }
def TakeHoldsUptoSaid : Prop := takeHoldsUptoRow.holds Tryz.pinned (OpenSpec.upto takeHoldsSpec)

/-- 'cardamomlaw15.TakeGrows', WHERE WHAT IT READS IS OF BULK AT MOST 1048576: true; the input reads as it did. -/
def takeGrowsUptoRow : OpenClaim := { program := "ytmhceknpmokahaagreatdoor", sum := "86174b18b227870cb4937fafed760e0692ab1748f5e86b23f2b825ef92d215af", func := "cardamom/cardamomlaw15.TakeGrows", spec := "takeGrows", inPlace := ["internal/bytealg.IndexByteString", "internal/reflectlite.ValueOf", "(internal/reflectlite.Value).Type", "(internal/reflectlite.Value).IsNil", "internal/reflectlite.TypeOf", "(internal/reflectlite.Value).Elem", "(internal/reflectlite.Value).Set", "internal/bytealg.IndexString", "slices.overlaps[cardamom/api.Version]", "slices.overlaps[cardamom/api.Head]"], unfollowed := true, recurses := true, named := ["errors.errorType", "unicode/utf8.first", "unicode/utf8.acceptRanges", "internal/bytealg.MaxLen"], apart := false, laid := [("unicode/utf8.acceptRanges", laid_unicode_utf8_acceptRanges), ("errors.errorType", laid_errors_errorType), ("unicode/utf8.first", laid_unicode_utf8_first)], narrowed := true }
def TakeGrowsUptoSaid : Prop := takeGrowsUptoRow.holds Tryz.pinned (OpenSpec.upto takeGrowsSpec)

/-- 'cardamomlaw15.TakeWrong', WHERE WHAT IT READS IS OF BULK AT MOST 1048576: true; the input reads as it did. -/
def takeWrongUptoRow : OpenClaim := { program := "ytmhceknpmokahaagreatdoor", sum := "86174b18b227870cb4937fafed760e0692ab1748f5e86b23f2b825ef92d215af", func := "cardamom/cardamomlaw15.TakeWrong", spec := "takeWrong", inPlace := ["internal/bytealg.IndexByteString", "internal/reflectlite.ValueOf", "(internal/reflectlite.Value).Type", "(internal/reflectlite.Value).IsNil", "internal/reflectlite.TypeOf", "(internal/reflectlite.Value).Elem", "(internal/reflectlite.Value).Set", "internal/bytealg.IndexString", "slices.overlaps[cardamom/api.Version]", "slices.overlaps[cardamom/api.Head]"], unfollowed := true, recurses := true, named := ["errors.errorType", "unicode/utf8.first", "unicode/utf8.acceptRanges", "internal/bytealg.MaxLen"], apart := false, laid := [("unicode/utf8.acceptRanges", laid_unicode_utf8_acceptRanges), ("errors.errorType", laid_errors_errorType), ("unicode/utf8.first", laid_unicode_utf8_first)], narrowed := true }
def TakeWrongUptoSaid : Prop := takeWrongUptoRow.holds Tryz.pinned (OpenSpec.upto takeWrongSpec)

/-- 'cardamomlaw15.TakeEpoch', WHERE WHAT IT READS IS OF BULK AT MOST 1048576: true; the input reads as it did. -/
def takeEpochUptoRow : OpenClaim := { program := "ytmhceknpmokahaagreatdoor", sum := "86174b18b227870cb4937fafed760e0692ab1748f5e86b23f2b825ef92d215af", func := "cardamom/cardamomlaw15.TakeEpoch", spec := "takeEpoch", inPlace := ["internal/bytealg.IndexByteString", "internal/reflectlite.ValueOf", "(internal/reflectlite.Value).Type", "(internal/reflectlite.Value).IsNil", "internal/reflectlite.TypeOf", "(internal/reflectlite.Value).Elem", "(internal/reflectlite.Value).Set", "internal/bytealg.IndexString", "slices.overlaps[cardamom/api.Version]", "slices.overlaps[cardamom/api.Head]"], unfollowed := true, recurses := true, named := ["errors.errorType", "unicode/utf8.first", "unicode/utf8.acceptRanges", "internal/bytealg.MaxLen"], apart := false, laid := [("unicode/utf8.acceptRanges", laid_unicode_utf8_acceptRanges), ("errors.errorType", laid_errors_errorType), ("unicode/utf8.first", laid_unicode_utf8_first)], narrowed := true }
def TakeEpochUptoSaid : Prop := takeEpochUptoRow.holds Tryz.pinned (OpenSpec.upto takeEpochSpec)

/-- 'cardamomlaw15.TakeNews', WHERE WHAT IT READS IS OF BULK AT MOST 1048576: true; the input reads as it did. -/
def takeNewsUptoRow : OpenClaim := { program := "ytmhceknpmokahaagreatdoor", sum := "86174b18b227870cb4937fafed760e0692ab1748f5e86b23f2b825ef92d215af", func := "cardamom/cardamomlaw15.TakeNews", spec := "takeNews", inPlace := ["internal/bytealg.IndexByteString", "internal/reflectlite.ValueOf", "(internal/reflectlite.Value).Type", "(internal/reflectlite.Value).IsNil", "internal/reflectlite.TypeOf", "(internal/reflectlite.Value).Elem", "(internal/reflectlite.Value).Set", "internal/bytealg.IndexString", "slices.overlaps[cardamom/api.Version]", "slices.overlaps[cardamom/api.Head]"], unfollowed := true, recurses := true, named := ["errors.errorType", "unicode/utf8.first", "unicode/utf8.acceptRanges", "internal/bytealg.MaxLen"], apart := false, laid := [("unicode/utf8.acceptRanges", laid_unicode_utf8_acceptRanges), ("errors.errorType", laid_errors_errorType), ("unicode/utf8.first", laid_unicode_utf8_first)], narrowed := true }
def TakeNewsUptoSaid : Prop := takeNewsUptoRow.holds Tryz.pinned (OpenSpec.upto takeNewsSpec)

/-- 'cardamomlaw12.ReplStamps', WHERE WHAT IT READS IS OF BULK AT MOST 1048576: true; the input reads as it did. -/
def replStampsUptoRow : OpenClaim := { program := "ytmhceknpmokahaagreatdoor", sum := "86174b18b227870cb4937fafed760e0692ab1748f5e86b23f2b825ef92d215af", func := "cardamom/cardamomlaw12.ReplStamps", spec := "replStamps", inPlace := ["internal/reflectlite.TypeOf", "internal/bytealg.IndexByteString", "internal/bytealg.IndexString", "internal/reflectlite.ValueOf", "(internal/reflectlite.Value).Type", "(internal/reflectlite.Value).IsNil", "(internal/reflectlite.Value).Elem", "(internal/reflectlite.Value).Set", "slices.overlaps[cardamom/api.Version]", "slices.overlaps[cardamom/api.Head]"], unfollowed := true, recurses := true, named := ["unicode/utf8.first", "unicode/utf8.acceptRanges", "errors.errorType", "internal/bytealg.MaxLen"], apart := false, laid := [("unicode/utf8.acceptRanges", laid_unicode_utf8_acceptRanges), ("errors.errorType", laid_errors_errorType), ("unicode/utf8.first", laid_unicode_utf8_first)], narrowed := true }
def ReplStampsUptoSaid : Prop := replStampsUptoRow.holds Tryz.pinned (OpenSpec.upto replStampsSpec)

/-- 'cardamomlaw12.ReplWrong', WHERE WHAT IT READS IS OF BULK AT MOST 1048576: true; the input reads as it did. -/
def replWrongUptoRow : OpenClaim := { program := "ytmhceknpmokahaagreatdoor", sum := "86174b18b227870cb4937fafed760e0692ab1748f5e86b23f2b825ef92d215af", func := "cardamom/cardamomlaw12.ReplWrong", spec := "replWrong", inPlace := ["internal/reflectlite.TypeOf", "internal/bytealg.IndexByteString", "internal/bytealg.IndexString", "internal/reflectlite.ValueOf", "(internal/reflectlite.Value).Type", "(internal/reflectlite.Value).IsNil", "(internal/reflectlite.Value).Elem", "(internal/reflectlite.Value).Set", "slices.overlaps[cardamom/api.Version]", "slices.overlaps[cardamom/api.Head]"], unfollowed := true, recurses := true, named := ["unicode/utf8.first", "unicode/utf8.acceptRanges", "errors.errorType", "internal/bytealg.MaxLen"], apart := false, laid := [("unicode/utf8.acceptRanges", laid_unicode_utf8_acceptRanges), ("errors.errorType", laid_errors_errorType), ("unicode/utf8.first", laid_unicode_utf8_first)], narrowed := true }
def ReplWrongUptoSaid : Prop := replWrongUptoRow.holds Tryz.pinned (OpenSpec.upto replWrongSpec)

/-- 'cardamomlaw12.ReplAsks', WHERE WHAT IT READS IS OF BULK AT MOST 1048576: true; the input reads as it did. -/
def replAsksUptoRow : OpenClaim := { program := "ytmhceknpmokahaagreatdoor", sum := "86174b18b227870cb4937fafed760e0692ab1748f5e86b23f2b825ef92d215af", func := "cardamom/cardamomlaw12.ReplAsks", spec := "replAsks", inPlace := ["internal/reflectlite.TypeOf", "internal/bytealg.IndexByteString", "internal/bytealg.IndexString", "internal/reflectlite.ValueOf", "(internal/reflectlite.Value).Type", "(internal/reflectlite.Value).IsNil", "(internal/reflectlite.Value).Elem", "(internal/reflectlite.Value).Set", "slices.overlaps[cardamom/api.Version]", "slices.overlaps[cardamom/api.Head]"], unfollowed := true, recurses := true, named := ["unicode/utf8.first", "unicode/utf8.acceptRanges", "errors.errorType", "internal/bytealg.MaxLen"], apart := false, laid := [("unicode/utf8.acceptRanges", laid_unicode_utf8_acceptRanges), ("errors.errorType", laid_errors_errorType), ("unicode/utf8.first", laid_unicode_utf8_first)], narrowed := true }
def ReplAsksUptoSaid : Prop := replAsksUptoRow.holds Tryz.pinned (OpenSpec.upto replAsksSpec)

end Rows
end Go.Proofs.YtmhceknpmokahaaGreatDoor
