/- VputBack answers true: whatever it is handed: no condition. The walk goes by the runner whose soundness is proved; then the row, with the laid variables, and its card. -/
import Derived.Test.YtmkkhaonakdgpaaDoorRows
import Derived.Test.YtmkkhaonakdgpaaDoorCards
import Derived.Test.YtmkkhaonakdgpaaDoorTie
import Derived.Test.YtmkkhaonakdgpaaDoorHand
import Derived.Test.YtmkkhaonakdgpaaDoorG3
import Derived.Test.YtmkkhaonakdgpaaDoorVputk
import Derived.ProofKit
import Derived.Carry
import Derived.ChangeSame
import Derived.ChangeVars
import Derived.JoinedOf
import Derived.RowKit
import Derived.RowKitTokens
import Derived.LaidLaws
import Derived.LaidHandle
import Derived.Stop.Joined
import Derived.SevenTiedAt
namespace Go.Proofs.YtmkkhaonakdgpaaDoor.vputBack
open Go.ChangeShapes Go.WideShapes Go.ChangeAt Go.RowKit Go.Ab
theorem own : ownKnob Tryd.prog.godebug = none := by kernel_rfl
abbrev laid : List (String × DataW Unit) := [("unicode/utf8.acceptRanges", Rows.laid_unicode_utf8_acceptRanges), ("errors.errorType", Rows.laid_errors_errorType), ("unicode/utf8.first", Rows.laid_unicode_utf8_first)]
noncomputable def laidWorld (os : Os) : World :=
  let w := World.holding Tryd.prog os ⟨#[], #[], []⟩
  let w := Go.Ab.layBlock (Go.Ab.flatD 9 (Rows.laid_unicode_utf8_acceptRanges (H := Unit))).toArray w 2
  let w := Go.Ab.layBlock #[.iface 86 (.agg #[.pointer (some ⟨4, 43, none⟩)])] w 0
  let w := Go.Ab.layBlock (Go.Ab.flatD 9 Rows.laid_unicode_utf8_first).toArray w 1
  w
set_option maxRecDepth 1000000 in
theorem laidWorld_met (os : Os) (args : Array Value) : laidMetH Tryd.prog laid ((laidWorld os).forCall (fun _ _ => 0) ⟨#[], args, []⟩).memory :=
  Go.Ab.laidH 33 1024 (by kernel_rfl) (by kernel_rfl)
theorem et : Tryd.prog.globalNamed "errors.errorType" = some 0 := by kernel_rfl
theorem rt : (Tryd.prog.cutTypes.find? (·.1 == "internal/reflectlite.rtype")).map (·.2) = some 86 := by kernel_rfl
theorem oneRow : ((List.range Tryd.prog.types.size).filter fun t => Tryd.prog.rowNamed t [101, 114, 114, 111, 114]) = [43] := by kernel_rfl
theorem hh : typeHandle Tryd.prog 43 = .pointer (some ⟨4, 43, none⟩) := by kernel_rfl
theorem hands {W : World} (h : laidMetH Tryd.prog laid W) : handlesMet Tryd.prog (laid.filter fun x => x.2.handleName?.isSome) W := Go.Ab.hands_of (by kernel_rfl) h
theorem laidMem : ("errors.errorType", (Rows.laid_errors_errorType (H := Unit))) ∈ laid.filter fun x => x.2.handleName?.isSome := List.mem_filter.2 ⟨by simp [laid], by kernel_rfl⟩
theorem handle_of_laid {W : World} (h : laidMetH Tryd.prog laid W) : W.cell? ⟨0, 0, none⟩ = some (.iface 86 (.agg #[.pointer (some ⟨4, 43, none⟩)])) := by
  obtain ⟨name, u, ty, e1, e2, e3, e4, e5⟩ := hands h _ laidMem
  have en : name = [101, 114, 114, 111, 114] := (Option.some.inj e1).symm
  subst en
  obtain rfl := Option.some.inj (rt.symm.trans e2)
  have hm : ty ∈ (List.range Tryd.prog.types.size).filter fun t => Tryd.prog.rowNamed t [101, 114, 114, 111, 114] := List.mem_filter.2 ⟨List.mem_range.2 e3, e4⟩
  rw [oneRow] at hm
  obtain rfl := List.mem_singleton.1 hm
  rw [hh] at e5
  simpa using World.var?_cell et e5 0
set_option maxRecDepth 1000000 in
theorem lifted (os : Os) (started : os.Started) (H : Type) (enc : TypeId × Value → H) :
    ReturnsInHanded {} Tryd.checked os 4 .any (fun w args => (Rows.vputBackSpec.pre enc Tryd.prog Tryd.f4 [] false w args ∧ laidMetH Tryd.prog laid w) ∧ sizedMet enc Tryd.prog Tryd.f4 (OpenSpec.ofChange Rows.vputBackSpec) false w args)
      (Rows.vputBackSpec.post enc Tryd.prog Tryd.f4 false true false false) := by
  refine returnsInHanded_of_change_and (C := Tryd.checked) (X := fun w _ => laidMetH Tryd.prog laid w) (fun _ _ _ hh h => h.of_heap hh) own started (by kernel_rfl) Tryd.func4
    (ChangeSpec.witness_at (enc := enc) (C := Tryd.checked) (os := os) (X := fun w _ => laidMetH Tryd.prog laid w) false (laidWorld os) #[.slice none 0 0, .slice none 0 0, .int .u8 0] 8 rfl (by kernel_rfl) (by kernel_rfl) (by kernel_rfl) (by kernel_rfl) (by kernel_rfl) (laidWorld_met os _)) ?_
  intro W base args ds gs before hval0 hW _ _ hL _
  have hW' := hW
  obtain ⟨p, q, hA0, hV0, rfl, hfz, hnd⟩ := hW
  have hA : DataW.TrodAll enc Tryd.prog W 0 (fun _ => true) true Tryd.f4.params.toList args.toList ds p := hA0
  have hV : DataW.TrodVars enc Tryd.prog W (fun _ => true) [] gs q := hV0
  have hval : ∀ (j : Nat) t v, Tryd.f4.params[j]? = some t → args[j]? = some v → Value.okWide Tryd.prog W .any base t v := hval0
  have hAll := hA
  rw [Tryd.params4] at hA hval
  obtain ⟨v0, v1, v2, d0, d1, d2, q0, q1, q2, rfl, rfl, hq, t0, t1, t2⟩ := trodAll_three hA
  obtain ⟨a0, wf0, r0⟩ := arg_R (P := Tryd.prog) (ty := (.slice (.int .u8))) (.slice (e := 5) (by kernel_rfl) (.int (by kernel_rfl)) (by kernel_rfl) (by decide)) (hval 0 30 v0 rfl rfl) t0
  obtain ⟨x0, e0, h0⟩ := (fun bs h => wf_rows encB (fun _ => True) (fun bs h => wf_u8 h) h) a0 wf0
  rw [e0] at r0
  obtain ⟨a1, wf1, r1⟩ := arg_R (P := Tryd.prog) (ty := (.slice (.int .u8))) (.slice (e := 5) (by kernel_rfl) (.int (by kernel_rfl)) (by kernel_rfl) (by decide)) (hval 1 30 v1 rfl rfl) t1
  obtain ⟨x1, e1, h1⟩ := (fun bs h => wf_rows encB (fun _ => True) (fun bs h => wf_u8 h) h) a1 wf1
  rw [e1] at r1
  obtain ⟨a2, wf2, r2⟩ := arg_R (P := Tryd.prog) (ty := (.int .u8)) (.int (by kernel_rfl)) (hval 2 5 v2 rfl rfl) t2
  obtain ⟨x2, e2, h2⟩ := (fun bs h => wf_u8 h) a2 wf2
  rw [e2] at r2
  obtain ⟨rfl, rfl⟩ := trodVars_none hV
  refine (law_calls (Φ := phiW W) Tryd.func4 (by kernel_rfl) (by kernel_rfl) (Tryd.law_VputBack x0 x1 x2 h0 h1 h2) (xs := #[v0, v1, v2]) (Rs.cons r0 (Rs.cons r1 (Rs.cons r2 Rs.nil))) (fun b o x h => by obtain ⟨rfl, rfl, rfl⟩ := phi1_at h; exact handle_of_laid hL) (fun _ _ _ h => h)).mono fun e W' ⟨he, hw⟩ => ?_
  subst he
  have hlt := hW'.lt
  exact ⟨_, rfl, post_kept (pa := p) (pv := []) hW' (fun _ _ _ => trodAll_mk1 (shut_bool Tryd.underlying4 _))
    (fun sp hsp => args_back (by kernel_rfl) (by kernel_rfl) (by kernel_rfl) (by decide) hAll (fun x hx => hlt x (List.mem_append_left _ hx)) hw (fun x hx => hsp x (List.mem_append_left _ hx))) (fun _ _ => rfl) hw⟩
theorem j1 : (Rows.vputBackRow.inPlace == Tryd.prog.inPlace 4) = true := by kernel_rfl
theorem j2 : (Rows.vputBackRow.unfollowed == Tryd.prog.unfollowed 4) = true := by kernel_rfl
theorem j3 : (Rows.vputBackRow.recurses == Tryd.prog.recurses 4) = true := by kernel_rfl
theorem j4 : (Rows.vputBackRow.named == Tryd.prog.varsNamed 4) = true := by kernel_rfl
theorem j5 : laidOutB Tryd.prog = true := by kernel_rfl
theorem j6 : mapsRowed Tryd.prog = true := by kernel_rfl
theorem joined : joinedFacts Tryd.prog 4 Tryd.f4 Rows.vputBackSpec Rows.vputBackRow = true := by
  unfold joinedFacts
  rw [j1, j2, j3, j4, j5, j6]
  kernel_rfl
theorem named : Tryd.prog.funcNamed Rows.vputBackRow.func = some 4 := by kernel_rfl
theorem byText : Rows.vputBackRow.wfByText (OpenSpec.ofChange Rows.vputBackSpec) = true := by kernel_rfl
theorem main : Tryd.prog.mainIs = some ((true, "46c94e71bfe2158a639c1910a0fd1050a3e3a792169b0880b3675c05cb240603").1, (true, "46c94e71bfe2158a639c1910a0fd1050a3e3a792169b0880b3675c05cb240603").2.toList) := by kernel_rfl
theorem looked : true = Tryd.prog.looks [] := by kernel_rfl
theorem goes : false = Rows.vputBackRow.goesBy Tryd.prog := by kernel_rfl
theorem wants (j : Nat) (t : TypeId) (ht : Tryd.f4.params[j]? = some t) : Tryd.prog.wantsStandIn t = false := by
  have h : (Tryd.f4.params.toList.all fun t => !(Tryd.prog.wantsStandIn t)) = true := by kernel_rfl
  have := List.all_eq_true.1 h t (Array.mem_toList_iff.2 (Array.mem_of_getElem? ht))
  simpa using this
set_option maxRecDepth 1000000 in
theorem said : Rows.VputBackSaid :=
  OpenClaim.holds_of_wide 4 Tryd.f4 rfl rfl rfl rfl rfl rfl rfl ⟨rfl, rfl, rfl, rfl, rfl⟩ rfl rfl rfl rfl rfl named Tryd.func4 joined
    (of_decide_eq_true (by kernel_rfl)) (by unfold Func.isWrapper; first | (rw [if_pos (by decide +kernel)]; kernel_rfl) | (rw [if_neg (by decide +kernel)]; exact ⟨rfl, rfl⟩))
    (fun os started H enc _ => lifted os started H enc)
set_option maxRecDepth 1000000 in
theorem proved : Rows.VputBackCardSaid :=
  Claim7.holds_tied_plain_at .later [] [.data, .handle, .pinned] true (true, "46c94e71bfe2158a639c1910a0fd1050a3e3a792169b0880b3675c05cb240603") true
    said (fun _ h => by cases h) byText (fun _ h => by cases h) vputBack_row_tie rfl ⟨rfl, rfl⟩ main rfl
    (fun f fn hf hfn => by
      obtain rfl : f = 4 := Option.some.inj (named.symm.trans hf) |>.symm
      obtain rfl : fn = Tryd.f4 := (Option.some.inj (Tryd.func4.symm.trans hfn)).symm
      exact ⟨looked, wants⟩)
    goes
#print axioms proved
end Go.Proofs.YtmkkhaonakdgpaaDoor.vputBack
