/- Package cardamomref4: what a text is as a filter. -/
import Derived.Test.YtmhceknpmokahaaGreatDoorRef4c
import Derived.Test.YtmhceknpmokahaaGreatDoorRef4e
namespace Go.Ab.Tryz
open Go
set_option maxRecDepth 100000
set_option maxHeartbeats 4000000
noncomputable def parse (s:List UInt8):Flt×Int×Bool:=
 match goodP.find? (fun p=>p.1==s)with
 |some p=>(p.2,0,true)
 |none=>if h:s.length≤100000 then Classical.choose (parse_ex s h)else(.leaf 0 0 0 0 [],0,false)
theorem parse_of {p:List UInt8×Flt} (hp:p∈goodP):parse p.1=(p.2,0,true):=by
 simp only[goodP,List.mem_cons,List.not_mem_nil,or_false]at hp
 rcases hp with rfl|rfl|rfl|rfl|rfl|rfl|rfl|rfl|rfl|rfl<;>rfl
theorem goodP_ok:∀p∈goodP,p.2.ok∧p.2.short∧p.1.length≤80:=by
 intro p hp
 simp only[goodP,List.mem_cons,List.not_mem_nil,or_false]at hp
 rcases hp with rfl|rfl|rfl|rfl|rfl|rfl|rfl|rfl|rfl|rfl<;>simp[Flt.ok,Flt.short]
theorem parse_Good:Prs.Good parse:=by
 intro t ht
 simp only[goodF,wants,List.mem_cons,List.not_mem_nil,or_false]at ht
 rcases ht with rfl|rfl|rfl|rfl|rfl|rfl|rfl|rfl|rfl|rfl|rfl<;>rfl
theorem parse_spec (s:List UInt8) (h:s.length≤100000):X.call 31 [.str s] [] ⟨.tuple [encFlt (parse s).1,.int .i64 (parse s).2.1,.bool (parse s).2.2],[],[]⟩∧(parse s).1.ok∧(parse s).1.short∧((parse s).2.2=true→s.length≤80):=by
 cases e:goodP.find? (fun p=>p.1==s)with
 |some p=>
  have hp:=List.mem_of_find?_eq_some e
  have hs:p.1=s:=by simpa using List.find?_some e
  subst hs
  rw[parse_of hp]
  exact⟨parse_good p hp,(goodP_ok p hp).1,(goodP_ok p hp).2.1,fun _=>(goodP_ok p hp).2.2⟩
 |none=>
  have e2:parse s=Classical.choose (parse_ex s h):=by unfold parse;rw[e];simp only;rw[dif_pos h]
  rw[e2];exact Classical.choose_spec (parse_ex s h)
theorem c31 (s:List UInt8) (h:s.length≤100000):X.call 31 [.str s] [] ⟨.tuple [encFlt (parse s).1,.int .i64 (parse s).2.1,.bool (parse s).2.2],[],[]⟩:=(parse_spec s h).1
theorem parse_ok (s:List UInt8):(parse s).1.ok:=by
 by_cases h:s.length≤100000
 ·exact(parse_spec s h).2.1
 ·unfold parse;split
  ·rename_i p e;exact(goodP_ok p (List.mem_of_find?_eq_some e)).1
  ·rw[dif_neg h];simp[Flt.ok]
theorem parse_short (s:List UInt8):(parse s).1.short:=by
 by_cases h:s.length≤100000
 ·exact(parse_spec s h).2.2.1
 ·unfold parse;split
  ·rename_i p e;exact(goodP_ok p (List.mem_of_find?_eq_some e)).2.1
  ·rw[dif_neg h];simp[Flt.short]
theorem parse_len (s:List UInt8) (h:(parse s).2.2=true):s.length≤80:=by
 by_cases h':s.length≤100000
 ·exact(parse_spec s h').2.2.2 h
 ·unfold parse at h;split at h
  ·rename_i p e
   have hs:p.1=s:=by simpa using List.find?_some e
   rw[←hs];exact(goodP_ok p (List.mem_of_find?_eq_some e)).2.2
  ·rw[dif_neg h']at h;cases h
end Go.Ab.Tryz
