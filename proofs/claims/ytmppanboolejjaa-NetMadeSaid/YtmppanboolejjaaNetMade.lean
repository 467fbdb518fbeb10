/- NetMade answers true, whatever it is handed: no condition. The walk goes by the runner whose soundness is proved. -/
import Derived.Test.YtmppanboolejjaaRows
import Derived.Test.YtmppanboolejjaaNetLaw
import Derived.Test.YtmppanboolejjaaAbArgs
import Derived.ProofKit
import Derived.Carry
namespace Go.Proofs.Ytmppanboolejjaa.netMade
open Go.ChangeShapes Go.WideShapes Go.ChangeAt Go.RowKit Go.Ab
theorem own : ownKnob Try.prog.godebug = none := by kernel_rfl
set_option maxRecDepth 1000000 in
theorem lifted (os : Os) (started : os.Started) (H : Type) (enc : TypeId × Value → H) :
    ReturnsInHanded {} Try.checked os 3 .any (Rows.netMadeSpec.pre6 enc Try.prog Try.f3 Rows.netMadeRow.domain false) (Rows.netMadeSpec.post enc Try.prog Try.f3 false true false false) := by
  refine returnsInHanded_of_change (C := Try.checked) own started (by kernel_rfl) Try.func3
    (ChangeSpec.witness6 (enc := enc) (C := Try.checked) false ⟨#[], #[.slice none 0 0], []⟩ 8 (by kernel_rfl) (by kernel_rfl) (by kernel_rfl) (by kernel_rfl)) ?_
  intro W base args ds gs before hval0 hW hcnd _
  have hval : ∀ (j : Nat) t v, Try.f3.params[j]? = some t → args[j]? = some v → Value.okWide Try.prog W .any base t v := hval0
  have hW' := hW
  obtain ⟨p, q, hA0, hV, rfl, hfz, hnd⟩ := hW
  have hA : DataW.TrodAll enc Try.prog W 0 (fun _ => true) true Try.f3.params.toList args.toList ds p := hA0
  have hAll := hA
  rw [Try.params3] at hA hval
  obtain ⟨v0, d0, rfl, rfl, t0⟩ := trodAll_one hA
  obtain ⟨a0, wf0, r0⟩ := arg_R (P := Try.prog) (ty := (.slice (.agg (List.replicate 4 (.int .u8))))) (.slice (e := 25) (by kernel_rfl) (.array (e := 5) (by kernel_rfl) (by kernel_rfl) (.int (by kernel_rfl)) (by kernel_rfl)) (by kernel_rfl) (by decide)) (hval 0 22 v0 rfl rfl) t0
  obtain ⟨x0, e0, h0⟩ := (fun bs h => wf_rows encQ4 (fun _ => True) (fun bs h => wf_q4 h) h) a0 wf0
  rw [e0] at r0
  obtain ⟨rfl, rfl⟩ := trodVars_none hV
  refine (law_calls (Φ := phiW W) Try.func3 (by kernel_rfl) (by kernel_rfl) (Try.law_NetMade x0 h0) (xs := #[v0]) (Rs.cons r0 Rs.nil) (fun _ _ _ h => by cases h) (fun _ _ _ h => h)).mono fun e W' ⟨he, hw⟩ => ?_
  subst he
  have hlt := hW'.lt
  exact ⟨_, rfl, post_kept (pa := p) (pv := []) hW' (fun _ _ _ => trodAll_mk1 (shut_bool Try.underlying4 _))
    (fun sp hsp => args_back (by kernel_rfl) (by kernel_rfl) (by kernel_rfl) (by decide) hAll (fun x hx => hlt x (List.mem_append_left _ hx)) hw (fun x hx => hsp x (List.mem_append_left _ hx))) (fun _ _ => rfl) hw⟩
set_option maxRecDepth 1000000 in
theorem proved : Rows.NetMadeSaid :=
  OpenClaim.holds_of_wide 3 Try.f3 rfl rfl rfl rfl rfl rfl rfl ⟨rfl, rfl, rfl, rfl, rfl⟩ rfl rfl rfl rfl rfl (by kernel_rfl) Try.func3 (by kernel_rfl)
    (of_decide_eq_true (by kernel_rfl)) (by unfold Func.isWrapper; first | (rw [if_pos (by decide +kernel)]; kernel_rfl) | (rw [if_neg (by decide +kernel)]; exact ⟨rfl, rfl⟩))
    (fun os started H enc _ => lifted os started H enc)
#print axioms proved
end Go.Proofs.Ytmppanboolejjaa.netMade
