/- Package cardamomref20: edges that play picks make a mesh. -/
import Derived.Test.YtmhceknpmokahaaGreatDoorHand
import Derived.Test.YtmhceknpmokahaaGreatDoorAbEdge
namespace Go.Ab.Tryz
open Go
set_option maxRecDepth 100000
set_option maxHeartbeats 4000000
theorem topo_yes {size:Nat} {es:List Edge} (h:EdgesOk size es) (h1:1≤size) (h4:size≤4):X.call 163 [.int .i64 size,.tree (es.map encEdge)] [] ⟨.bool true,[],[]⟩:=by
 have e:=h.among h4
 have hr:∀x:Edge,(size:Int)<x.B→decide (x∈es)=false:=fun x hx=>decide_eq_false fun hm=>by have:=h.r x hm;omega
 have hc2:2≤size→decide ((⟨1,2⟩:Edge)∈es)=true:=fun hs=>by
  obtain⟨x,hx,hb⟩:=h.c 2 (by omega) hs
  obtain⟨r1,r2,r3⟩:=h.r x hx
  obtain⟨a,b⟩:=x
  simp only at hb r1 r2 r3
  have:a=1:=by omega
  subst this;subst hb
  exact decide_eq_true hx
 have hc3:3≤size→decide ((⟨1,3⟩:Edge)∈es)=true∨decide ((⟨2,3⟩:Edge)∈es)=true:=fun hs=>by
  obtain⟨x,hx,hb⟩:=h.c 3 (by omega) hs
  obtain⟨r1,r2,r3⟩:=h.r x hx
  obtain⟨a,b⟩:=x
  simp only at hb r1 r2 r3
  subst hb
  have:a=1∨a=2:=by omega
  rcases this with rfl|rfl
  ·exact .inl (decide_eq_true hx)
  ·exact .inr (decide_eq_true hx)
 have hc4:4≤size→decide ((⟨1,4⟩:Edge)∈es)=true∨decide ((⟨2,4⟩:Edge)∈es)=true∨decide ((⟨3,4⟩:Edge)∈es)=true:=fun hs=>by
  obtain⟨x,hx,hb⟩:=h.c 4 (by omega) hs
  obtain⟨r1,r2,r3⟩:=h.r x hx
  obtain⟨a,b⟩:=x
  simp only at hb r1 r2 r3
  subst hb
  have:a=1∨a=2∨a=3:=by omega
  rcases this with rfl|rfl|rfl
  ·exact .inl (decide_eq_true hx)
  ·exact .inr (.inl (decide_eq_true hx))
  ·exact .inr (.inr (decide_eq_true hx))
 have r12:=hr ⟨1,2⟩;have r13:=hr ⟨1,3⟩;have r14:=hr ⟨1,4⟩;have r23:=hr ⟨2,3⟩;have r24:=hr ⟨2,4⟩;have r34:=hr ⟨3,4⟩
 simp only[allE,List.filter]at e
 clear hr h
 generalize decide ((⟨1,2⟩:Edge)∈es)=b12 at*
 generalize decide ((⟨1,3⟩:Edge)∈es)=b13 at*
 generalize decide ((⟨1,4⟩:Edge)∈es)=b14 at*
 generalize decide ((⟨2,3⟩:Edge)∈es)=b23 at*
 generalize decide ((⟨2,4⟩:Edge)∈es)=b24 at*
 generalize decide ((⟨3,4⟩:Edge)∈es)=b34 at*
 have hs:size=1∨size=2∨size=3∨size=4:=by omega
 rcases hs with rfl|rfl|rfl|rfl<;>simp at hc2 hc3 hc4 r12 r13 r14 r23 r24 r34<;>subst_vars<;>(try cases b12)<;>(try cases b13)<;>(try cases b14)<;>(try cases b23)<;>(try cases b24)<;>(try cases b34)<;>first|(exfalso;revert hc3;decide)|(exfalso;revert hc4;decide)|exact ev_ok envOk 1000 _ _ _ _ (by kernel_rfl)
end Go.Ab.Tryz
