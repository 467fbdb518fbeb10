/- GoalForms answers true: a closed statement. Its run is evaluated by the kernel, over the runner whose soundness is proved; then the row, with the laid variables, and its card. -/
import Derived.Test.YtgaibmbphbmlkaaGreatDoorRows
import Derived.Test.YtgaibmbphbmlkaaGreatDoorCards
import Derived.Test.YtgaibmbphbmlkaaGreatDoorTie
import Derived.Test.YtgaibmbphbmlkaaGreatDoorGoalFormsMemo0
import Derived.Test.YtgaibmbphbmlkaaGreatDoorAbBridge
import Derived.Test.YtgaibmbphbmlkaaGreatDoorAbCard
import Derived.ProofKit
import Derived.ChangeSame
import Derived.ChangeVars
import Derived.JoinedOf
import Derived.RowKit
import Derived.RowKitTokens
import Derived.LaidLaws
import Derived.LaidHandle
import Derived.Stop.Joined
import Derived.SevenTiedAt
namespace Go.Proofs.YtgaibmbphbmlkaaGreatDoor.goalForms
open Go.ChangeShapes Go.WideShapes Go.ChangeAt Go.RowKit
theorem own : ownKnob Tryz.prog.godebug = none := by kernel_rfl
set_option maxRecDepth 1000000 in
theorem walk (w : World) : Calls Tryz.prog 5 #[] w fun e w' => e = .returned (.bool true) ∧ Go.Ab.Kept w w' :=
  Go.Ab.law_closed Tryz.func5 (by kernel_rfl) (by kernel_rfl) Go.Ab.goalForms.root
abbrev laid : List (String × DataW Unit) := [("unicode/utf8.acceptRanges", Rows.laid_unicode_utf8_acceptRanges), ("errors.errorType", Rows.laid_errors_errorType), ("unicode/utf8.first", Rows.laid_unicode_utf8_first)]
noncomputable def laidWorld (os : Os) : World :=
  let w := World.holding Tryz.prog os ⟨#[], #[], []⟩
  let w := Go.Ab.layBlock (Go.Ab.flatD 9 (Rows.laid_unicode_utf8_acceptRanges (H := Unit))).toArray w 3
  let w := Go.Ab.layBlock #[.iface 289 (.agg #[.pointer (some ⟨4, 123, none⟩)])] w 0
  let w := Go.Ab.layBlock (Go.Ab.flatD 9 Rows.laid_unicode_utf8_first).toArray w 2
  w
set_option maxRecDepth 1000000 in
theorem laidWorld_met (os : Os) (args : Array Value) : laidMetH Tryz.prog laid ((laidWorld os).forCall (fun _ _ => 0) ⟨#[], args, []⟩).memory :=
  Go.Ab.laidH 33 1024 (by kernel_rfl) (by kernel_rfl)
set_option maxRecDepth 1000000 in
theorem lifted (os : Os) (started : os.Started) (H : Type) (enc : TypeId × Value → H) :
    ReturnsInHanded {} Tryz.checked os 5 .any (fun w args => (Rows.goalFormsSpec.pre enc Tryz.prog Tryz.f5 [] false w args ∧ laidMetH Tryz.prog laid w) ∧ sizedMet enc Tryz.prog Tryz.f5 (OpenSpec.ofChange Rows.goalFormsSpec) false w args)
      (Rows.goalFormsSpec.post enc Tryz.prog Tryz.f5 false true false false) := by
  refine returnsInHanded_of_change_and (C := Tryz.checked) (X := fun w _ => laidMetH Tryz.prog laid w) (fun _ _ _ hh h => h.of_heap hh) own started (by kernel_rfl) Tryz.func5
    (ChangeSpec.witness_at (enc := enc) (C := Tryz.checked) (os := os) (X := fun w _ => laidMetH Tryz.prog laid w) false (laidWorld os) #[] 8 rfl (by kernel_rfl) (by kernel_rfl) (by kernel_rfl) (by kernel_rfl) (by kernel_rfl) (laidWorld_met os _)) ?_
  intro W base args ds gs before hval0 hW _ _ hL _
  have hW' := hW
  obtain ⟨p, q, hA0, hV0, rfl, hfz, hnd⟩ := hW
  have hA : DataW.TrodAll enc Tryz.prog W 0 (fun _ => true) true Tryz.f5.params.toList args.toList ds p := hA0
  have hV : DataW.TrodVars enc Tryz.prog W (fun _ => true) [] gs q := hV0
  rw [Tryz.params5] at hA
  obtain ⟨h1, rfl, rfl⟩ := trodAll_nil hA
  obtain rfl : args = #[] := by cases args; simp_all
  obtain ⟨rfl, rfl⟩ := trodVars_none hV
  refine (walk W).mono fun e W' ⟨he, hw⟩ => ?_
  subst he
  exact ⟨_, rfl, Go.Ab.post_kept (pa := []) (pv := []) hW' (fun _ _ _ => trodAll_mk1 (shut_bool Tryz.underlying4 _)) (fun sp _ => trodAll_mk0) (fun _ _ => rfl) hw⟩
theorem j1 : (Rows.goalFormsRow.inPlace == Tryz.prog.inPlace 5) = true := by kernel_rfl
theorem j2 : (Rows.goalFormsRow.unfollowed == Tryz.prog.unfollowed 5) = true := by kernel_rfl
theorem j3 : (Rows.goalFormsRow.recurses == Tryz.prog.recurses 5) = true := by kernel_rfl
theorem j4 : (Rows.goalFormsRow.named == Tryz.prog.varsNamed 5) = true := by kernel_rfl
theorem j5 : laidOutB Tryz.prog = true := by kernel_rfl
theorem j6 : mapsRowed Tryz.prog = true := by kernel_rfl
theorem joined : joinedFacts Tryz.prog 5 Tryz.f5 Rows.goalFormsSpec Rows.goalFormsRow = true := by
  unfold joinedFacts
  rw [j1, j2, j3, j4, j5, j6]
  kernel_rfl
theorem named : Tryz.prog.funcNamed Rows.goalFormsRow.func = some 5 := by kernel_rfl
theorem byText : Rows.goalFormsRow.wfByText (OpenSpec.ofChange Rows.goalFormsSpec) = true := by kernel_rfl
theorem main : Tryz.prog.mainIs = some ((true, "8a2b312b9e45c959a6a549732ac9a85a2019d1ab4aa1c528880fdf14fa5df6c6").1, (true, "8a2b312b9e45c959a6a549732ac9a85a2019d1ab4aa1c528880fdf14fa5df6c6").2.toList) := by kernel_rfl
theorem looked : true = Tryz.prog.looks [] := by kernel_rfl
theorem goes : false = Rows.goalFormsRow.goesBy Tryz.prog := by kernel_rfl
set_option maxRecDepth 1000000 in
theorem said : Rows.GoalFormsSaid :=
  OpenClaim.holds_of_wide 5 Tryz.f5 rfl rfl rfl rfl rfl rfl rfl ⟨rfl, rfl, rfl, rfl, rfl⟩ rfl rfl rfl rfl rfl named Tryz.func5 joined
    (of_decide_eq_true (by kernel_rfl)) (by unfold Func.isWrapper; first | (rw [if_pos (by decide +kernel)]; kernel_rfl) | (rw [if_neg (by decide +kernel)]; exact ⟨rfl, rfl⟩))
    (fun os started H enc _ => lifted os started H enc)
set_option maxRecDepth 1000000 in
theorem proved : Rows.GoalFormsCardSaid :=
  Claim7.holds_tied_plain_at .later [] [.data, .handle, .pinned] true (true, "8a2b312b9e45c959a6a549732ac9a85a2019d1ab4aa1c528880fdf14fa5df6c6") true
    said (fun _ h => by cases h) byText (fun _ h => by cases h) goalForms_row_tie rfl ⟨rfl, rfl⟩ main rfl
    (fun f fn hf hfn => by
      obtain rfl : f = 5 := Option.some.inj (named.symm.trans hf) |>.symm
      obtain rfl : fn = Tryz.f5 := (Option.some.inj (Tryz.func5.symm.trans hfn)).symm
      exact ⟨looked, fun j t ht => by
        rw [Tryz.params5] at ht
        simp at ht⟩)
    goes
#print axioms proved
end Go.Proofs.YtgaibmbphbmlkaaGreatDoor.goalForms
