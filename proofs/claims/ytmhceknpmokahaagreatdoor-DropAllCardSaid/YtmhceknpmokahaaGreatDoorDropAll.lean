/- DropAll answers true: whatever it is handed: no condition. The walk goes by the runner whose soundness is proved; then the row, with the laid variables, and its card. -/
import Derived.Test.YtmhceknpmokahaaGreatDoorRows
import Derived.Test.YtmhceknpmokahaaGreatDoorCards
import Derived.Test.YtmhceknpmokahaaGreatDoorTie
import Derived.Test.YtmhceknpmokahaaGreatDoorHand
import Derived.Test.YtmhceknpmokahaaGreatDoorG3
import Derived.Test.YtmhceknpmokahaaGreatDoorAbCard
import Derived.Test.YtmhceknpmokahaaGreatDoorLaw14a
import Derived.ProofKit
import Derived.Carry
import Derived.ChangeSame
import Derived.ChangeVars
import Derived.JoinedOf
import Derived.RowKit
import Derived.RowKitTokens
import Derived.LaidLaws
import Derived.LaidHandle
import Derived.Stop.Joined
import Derived.SevenTiedAt
namespace Go.Proofs.YtmhceknpmokahaaGreatDoor.dropAll
open Go.ChangeShapes Go.WideShapes Go.ChangeAt Go.RowKit Go.Ab
theorem own:ownKnob Tryz.prog.godebug=none:=by kernel_rfl
abbrev laid:List (String×DataW Unit):=[("unicode/utf8.acceptRanges",Rows.laid_unicode_utf8_acceptRanges),("errors.errorType",Rows.laid_errors_errorType),("unicode/utf8.first",Rows.laid_unicode_utf8_first)]
noncomputable def laidWorld (os:Os):World:=
 let w:=World.holding Tryz.prog os ⟨#[],#[],[]⟩
 let w:=Go.Ab.layBlock (Go.Ab.flatD 9 (Rows.laid_unicode_utf8_acceptRanges (H:=Unit))).toArray w 3
 let w:=Go.Ab.layBlock #[.iface 281 (.agg #[.pointer (some ⟨4,141,none⟩)])] w 0
 let w:=Go.Ab.layBlock (Go.Ab.flatD 9 Rows.laid_unicode_utf8_first).toArray w 2
 w
set_option maxRecDepth 1000000 in
theorem laidWorld_met (os:Os) (args:Array Value):laidMetH Tryz.prog laid ((laidWorld os).forCall (fun _ _=>0) ⟨#[],args,[]⟩).memory:=
 Go.Ab.laidH 33 1024 (by kernel_rfl) (by kernel_rfl)
theorem et:Tryz.prog.globalNamed "errors.errorType" =some 0:=by kernel_rfl
theorem rt:(Tryz.prog.cutTypes.find? (·.1== "internal/reflectlite.rtype")).map (·.2)=some 281:=by kernel_rfl
theorem oneRow:((List.range Tryz.prog.types.size).filter fun t=>Tryz.prog.rowNamed t [101,114,114,111,114])=[141]:=by kernel_rfl
theorem hh:typeHandle Tryz.prog 141= .pointer (some ⟨4,141,none⟩):=by kernel_rfl
theorem hands {W:World} (h:laidMetH Tryz.prog laid W):handlesMet Tryz.prog (laid.filter fun x=>x.2.handleName?.isSome) W:=Go.Ab.hands_of (by kernel_rfl) h
theorem laidMem:("errors.errorType",(Rows.laid_errors_errorType (H:=Unit)))∈laid.filter fun x=>x.2.handleName?.isSome:=List.mem_filter.2 ⟨by simp[laid],by kernel_rfl⟩
theorem handle_of_laid {W:World} (h:laidMetH Tryz.prog laid W):W.cell? ⟨0,0,none⟩=some (.iface 281 (.agg #[.pointer (some ⟨4,141,none⟩)])):=by
 obtain⟨name,u,ty,e1,e2,e3,e4,e5⟩:=hands h _ laidMem
 have en:name=[101,114,114,111,114]:=(Option.some.inj e1).symm
 subst en
 obtain rfl:=Option.some.inj (rt.symm.trans e2)
 have hm:ty∈(List.range Tryz.prog.types.size).filter fun t=>Tryz.prog.rowNamed t [101,114,114,111,114]:=List.mem_filter.2 ⟨List.mem_range.2 e3,e4⟩
 rw[oneRow]at hm
 obtain rfl:=List.mem_singleton.1 hm
 rw[hh]at e5
 simpa using World.var?_cell et e5 0
set_option maxRecDepth 1000000 in
theorem lifted (os:Os) (started:os.Started) (H:Type) (enc:TypeId×Value→H):
  ReturnsInHanded {} Tryz.checked os 3 .any (fun w args=>(Rows.dropAllSpec.pre enc Tryz.prog Tryz.f3 [] false w args∧laidMetH Tryz.prog laid w)∧sizedMet enc Tryz.prog Tryz.f3 (OpenSpec.ofChange Rows.dropAllSpec) false w args)
   (Rows.dropAllSpec.post enc Tryz.prog Tryz.f3 false true false false):=by
 refine returnsInHanded_of_change_and (C:=Tryz.checked) (X:=fun w _=>laidMetH Tryz.prog laid w) (fun _ _ _ hh h=>h.of_heap hh) own started (by kernel_rfl) Tryz.func3
  (ChangeSpec.witness_at (enc:=enc) (C:=Tryz.checked) (os:=os) (X:=fun w _=>laidMetH Tryz.prog laid w) false (laidWorld os) #[.slice none 0 0,.slice none 0 0] 8 rfl (by kernel_rfl) (by kernel_rfl) (by kernel_rfl) (by kernel_rfl) (by kernel_rfl) (laidWorld_met os _)) ?_
 intro W base args ds gs before hval0 hW _ _ hL _
 have hW':=hW
 obtain⟨p,q,hA0,hV0,rfl,hfz,hnd⟩:=hW
 have hA:DataW.TrodAll enc Tryz.prog W 0 (fun _=>true) true Tryz.f3.params.toList args.toList ds p:=hA0
 have hV:DataW.TrodVars enc Tryz.prog W (fun _=>true) [] gs q:=hV0
 have hval:∀(j:Nat) t v,Tryz.f3.params[j]? =some t→args[j]? =some v→Value.okWide Tryz.prog W .any base t v:=hval0
 have hAll:=hA
 rw[Tryz.params3]at hA hval
 obtain⟨v0,v1,d0,d1,q0,q1,rfl,rfl,hq,t0,t1⟩:=trodAll_two hA
 obtain⟨a0,wf0,r0⟩:=arg_R (P:=Tryz.prog) (ty:=(.slice (.int .u8))) (.slice (e:=5) (by kernel_rfl) (.int (by kernel_rfl)) (by kernel_rfl) (by decide)) (hval 0 22 v0 rfl rfl) t0
 obtain⟨x0,e0,h0⟩:=(fun bs h=>wf_rows encB (fun _=>True) (fun bs h=>wf_u8 h) h) a0 wf0
 rw[e0]at r0
 obtain⟨a1,wf1,r1⟩:=arg_R (P:=Tryz.prog) (ty:=(.slice (.int .u8))) (.slice (e:=5) (by kernel_rfl) (.int (by kernel_rfl)) (by kernel_rfl) (by decide)) (hval 1 22 v1 rfl rfl) t1
 obtain⟨x1,e1,h1⟩:=(fun bs h=>wf_rows encB (fun _=>True) (fun bs h=>wf_u8 h) h) a1 wf1
 rw[e1]at r1
 obtain⟨rfl,rfl⟩:=trodVars_none hV
 refine(law_calls (Φ:=phiW W) Tryz.func3 (by kernel_rfl) (by kernel_rfl) (Tryz.law_DropAll x0 x1 h0 h1) (xs:= #[v0,v1]) (Rs.cons r0 (Rs.cons r1 Rs.nil)) (fun b o x h=>by obtain⟨rfl,rfl,rfl⟩:=phi1_at h;exact handle_of_laid hL) (fun _ _ _ h=>h)).mono fun e W' ⟨he,hw⟩=> ?_
 subst he
 have hlt:=hW'.lt
 exact⟨_,rfl,post_kept (pa:=p) (pv:= []) hW' (fun _ _ _=>trodAll_mk1 (shut_bool Tryz.underlying4 _))
  (fun sp hsp=>args_back (by kernel_rfl) (by kernel_rfl) (by kernel_rfl) (by decide) hAll (fun x hx=>hlt x (List.mem_append_left _ hx)) hw (fun x hx=>hsp x (List.mem_append_left _ hx))) (fun _ _=>rfl) hw⟩
theorem j1:(Rows.dropAllRow.inPlace==Tryz.prog.inPlace 3)=true:=by kernel_rfl
theorem j2:(Rows.dropAllRow.unfollowed==Tryz.prog.unfollowed 3)=true:=by kernel_rfl
theorem j3:(Rows.dropAllRow.recurses==Tryz.prog.recurses 3)=true:=by kernel_rfl
theorem j4:(Rows.dropAllRow.named==Tryz.prog.varsNamed 3)=true:=by kernel_rfl
theorem j5:laidOutB Tryz.prog=true:=by kernel_rfl
theorem j6:mapsRowed Tryz.prog=true:=by kernel_rfl
theorem joined:joinedFacts Tryz.prog 3 Tryz.f3 Rows.dropAllSpec Rows.dropAllRow=true:=by
 unfold joinedFacts
 rw[j1,j2,j3,j4,j5,j6]
 kernel_rfl
theorem named:Tryz.prog.funcNamed Rows.dropAllRow.func=some 3:=by kernel_rfl
theorem byText:Rows.dropAllRow.wfByText (OpenSpec.ofChange Rows.dropAllSpec)=true:=by kernel_rfl
theorem main:Tryz.prog.mainIs=some ((true, "bf5c7d153e8a92edca34a4f2e152d1e4f1418c5a62b47d5e3621048e181d7f6a").1,(true, "bf5c7d153e8a92edca34a4f2e152d1e4f1418c5a62b47d5e3621048e181d7f6a").2.toList):=by kernel_rfl
theorem looked:true=Tryz.prog.looks [] :=by kernel_rfl
theorem goes:false=Rows.dropAllRow.goesBy Tryz.prog:=by kernel_rfl
theorem wants (j:Nat) (t:TypeId) (ht:Tryz.f3.params[j]? =some t):Tryz.prog.wantsStandIn t=false:=by
 have h:(Tryz.f3.params.toList.all fun t=> !(Tryz.prog.wantsStandIn t))=true:=by kernel_rfl
 have:=List.all_eq_true.1 h t (Array.mem_toList_iff.2 (Array.mem_of_getElem? ht))
 simpa using this
set_option maxRecDepth 1000000 in
theorem said:Rows.DropAllSaid:=
 OpenClaim.holds_of_wide 3 Tryz.f3 rfl rfl rfl rfl rfl rfl rfl ⟨rfl,rfl,rfl,rfl,rfl⟩ rfl rfl rfl rfl rfl named Tryz.func3 joined
  (of_decide_eq_true (by kernel_rfl)) (by unfold Func.isWrapper;first|(rw[if_pos (by decide+kernel)];kernel_rfl)|(rw[if_neg (by decide+kernel)];exact⟨rfl,rfl⟩))
  (fun os started H enc _=>lifted os started H enc)
set_option maxRecDepth 1000000 in
theorem proved:Rows.DropAllCardSaid:=
 Claim7.holds_tied_plain_at .later [] [.data,.handle,.pinned] true (true, "bf5c7d153e8a92edca34a4f2e152d1e4f1418c5a62b47d5e3621048e181d7f6a") true
  said (fun _ h=>by cases h) byText (fun _ h=>by cases h) dropAll_row_tie rfl ⟨rfl,rfl⟩ main rfl
  (fun f fn hf hfn=>by
    obtain rfl:f=3:=Option.some.inj (named.symm.trans hf) |>.symm
    obtain rfl:fn=Tryz.f3:=(Option.some.inj (Tryz.func3.symm.trans hfn)).symm
    exact⟨looked,wants⟩)
  goes
#print axioms proved
end Go.Proofs.YtmhceknpmokahaaGreatDoor.dropAll
