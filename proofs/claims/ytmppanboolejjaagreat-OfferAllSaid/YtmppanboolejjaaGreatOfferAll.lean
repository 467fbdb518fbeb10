/- OfferAll answers true, whatever it is handed: no condition. The walk goes by the runner whose soundness is proved. -/
import Derived.Test.YtmppanboolejjaaGreatRows
import Derived.Test.YtmppanboolejjaaGreatLaw13a
import Derived.Test.YtmppanboolejjaaGreatG3
import Derived.ProofKit
import Derived.Carry
namespace Go.Proofs.YtmppanboolejjaaGreat.offerAll
open Go.ChangeShapes Go.WideShapes Go.ChangeAt Go.RowKit Go.Ab
theorem own : ownKnob Tryz.prog.godebug = none := by kernel_rfl
set_option maxRecDepth 1000000 in
theorem lifted (os : Os) (started : os.Started) (H : Type) (enc : TypeId × Value → H) :
    ReturnsInHanded {} Tryz.checked os 6 .any (Rows.offerAllSpec.pre6 enc Tryz.prog Tryz.f6 Rows.offerAllRow.domain false) (Rows.offerAllSpec.post enc Tryz.prog Tryz.f6 false true false false) := by
  refine returnsInHanded_of_change (C := Tryz.checked) own started (by kernel_rfl) Tryz.func6
    (ChangeSpec.witness6 (enc := enc) (C := Tryz.checked) false ⟨#[],#[.slice none 0 0,.int .i64 0,.int .i64 0],[]⟩ 8 (by kernel_rfl) (by kernel_rfl) (by kernel_rfl) (by kernel_rfl)) ?_
  intro W base args ds gs before hval0 hW hcnd _
  have hval : ∀ (j : Nat) t v,Tryz.f6.params[j]? = some t → args[j]? = some v → Value.okWide Tryz.prog W .any base t v := hval0
  have hW' := hW
  obtain ⟨p,q,hA0,hV,rfl,hfz,hnd⟩ := hW
  have hA : DataW.TrodAll enc Tryz.prog W 0 (fun _ => true) true Tryz.f6.params.toList args.toList ds p := hA0
  have hAll := hA
  rw [Tryz.params6] at hA hval
  obtain ⟨v0,v1,v2,d0,d1,d2,q0,q1,q2,rfl,rfl,hq,t0,t1,t2⟩ := trodAll_three hA
  obtain ⟨a0,wf0,r0⟩ := arg_R (P := Tryz.prog) (ty := (.slice (.int .u8))) (.slice (e := 5) (by kernel_rfl) (.int (by kernel_rfl)) (by kernel_rfl) (by decide)) (hval 0 22 v0 rfl rfl) t0
  obtain ⟨x0,e0,h0⟩ := (fun bs h => wf_rows encB (fun _ => True) (fun bs h => wf_u8 h) h) a0 wf0
  rw [e0] at r0
  obtain ⟨a1,wf1,r1⟩ := arg_R (P := Tryz.prog) (ty := (.int .i64)) (.int (by kernel_rfl)) (hval 1 3 v1 rfl rfl) t1
  obtain ⟨x1,e1,h1⟩ := (fun bs h => wf_i64 h) a1 wf1
  rw [e1] at r1
  obtain ⟨a2,wf2,r2⟩ := arg_R (P := Tryz.prog) (ty := (.int .i64)) (.int (by kernel_rfl)) (hval 2 3 v2 rfl rfl) t2
  obtain ⟨x2,e2,h2⟩ := (fun bs h => wf_i64 h) a2 wf2
  rw [e2] at r2
  obtain ⟨rfl,rfl⟩ := trodVars_none hV
  refine (law_calls (Φ := phiW W) Tryz.func6 (by kernel_rfl) (by kernel_rfl) (Tryz.law_OfferAll x0 x1 x2 h0 h1 h2) (xs := #[v0,v1,v2]) (Rs.cons r0 (Rs.cons r1 (Rs.cons r2 Rs.nil))) (fun _ _ _ h => by cases h) (fun _ _ _ h => h)).mono fun e W' ⟨he,hw⟩ => ?_
  subst he
  have hlt := hW'.lt
  exact ⟨_,rfl,post_kept (pa := p) (pv := []) hW' (fun _ _ _ => trodAll_mk1 (shut_bool Tryz.underlying4 _))
    (fun sp hsp => args_back (by kernel_rfl) (by kernel_rfl) (by kernel_rfl) (by decide) hAll (fun x hx => hlt x (List.mem_append_left _ hx)) hw (fun x hx => hsp x (List.mem_append_left _ hx))) (fun _ _ => rfl) hw⟩
set_option maxRecDepth 1000000 in
theorem proved : Rows.OfferAllSaid :=
  OpenClaim.holds_of_wide 6 Tryz.f6 rfl rfl rfl rfl rfl rfl rfl ⟨rfl,rfl,rfl,rfl,rfl⟩ rfl rfl rfl rfl rfl (by kernel_rfl) Tryz.func6 (by kernel_rfl)
    (of_decide_eq_true (by kernel_rfl)) (by unfold Func.isWrapper; first | (rw [if_pos (by decide +kernel)]; kernel_rfl) | (rw [if_neg (by decide +kernel)]; exact ⟨rfl,rfl⟩))
    (fun os started H enc _ => lifted os started H enc)
#print axioms proved
end Go.Proofs.YtmppanboolejjaaGreat.offerAll
