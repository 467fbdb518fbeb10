/- Package cardamomplay: steps. -/
import Derived.Test.YtmhceknpmokahaaGreatDoorPlay3
namespace Go.Ab.Tryz
open Go
set_option maxRecDepth 100000
set_option maxHeartbeats 4000000
theorem step_ex (p:Picks) (hp:p.l.length≤100000) (m:Mesh) (h1:m.Size≤100) (h2:m.Edges.length≤20) (h3:m.Fly.length≤20) (h4:∀e∈m.Edges,e.A≤100∧e.B≤100):∃(s:Step) (q:Picks),X.call 112 [.ref (.inc 0) 0 0,encMesh m] [.box (encPicks p) true] ⟨encStep s,[.box (encPicks q) true],[]⟩∧StepOk s∧q.l.length≤100000:=by
 obtain⟨k,p1,c1,k0,k1,l1⟩:=num_ex p hp 12 (by omega) (by omega)
 by_cases e1:k<3
 ·obtain⟨s,q,c2,s2,l2⟩:=write_ex p1 l1 m.Size h1
  refine⟨s,q, ?_,s2,l2⟩
  clear h4 s2
  refine spec_of ok Go.Proofs.Tryz.func112 ok112 ?_
  refine(.c (@c1) (.it e1 (.c (@c2) .r)))
 by_cases e2:k<7∧0<m.Edges.length
 ·have e20:=e2.1
  have e21:=e2.2
  obtain⟨j,p2,c2,j0,j1,l2⟩:=num_ex p1 l1 m.Edges.length (by omega) (by omega)
  obtain⟨e,he⟩:∃e,m.Edges[j.toNat]? =some e:=⟨m.Edges[j.toNat]'(by omega),by simp⟩
  have hm:=h4 e (List.mem_of_getElem? he)
  obtain⟨i,p3,c3,i0,i1,l3⟩:=num_ex p2 l2 2 (by omega) (by omega)
  have hi:i=0∨i=1:=by omega
  rcases hi with rfl|rfl
  ·refine⟨⟨4,e.A,e.B,0,0,[],[],[]⟩,p3, ?_,⟨by simp,by simp only;omega,by simp,by simp,by simp,by simp⟩,l3⟩
   clear h4 hm e2
   refine spec_of ok Go.Proofs.Tryz.func112 ok112 ?_
   refine(.c (@c1) (.iF e1 (.it e20 (.it e20 (.it e20 (.et (0<(↑(List.map encEdge m.Edges).length:Int)) (by simp only[List.length_map,ciLt]) e21 (.b (.C ([.ref
    (.inc 0) 0 0,.int .i64 (↑(List.map encEdge m.Edges).length:Int)]) ([.box (encPicks p1) true]) (by simp) rfl (@c2) (.it j0 (.eh encEdge he (.c (@c3)
    (Sat.pFin ((0:Int)) 2 (0) (by kernel_rfl) rfl (by decide) (Sat.pFin (IntKind.i64.wrap ((1:Int)-(0:Int))) 2 (1) (by kernel_rfl) rfl (by decide) .r)))))) (.C ([.ref
    (.inc 0) 0 0,.int .i64 (↑(List.map encEdge m.Edges).length:Int)]) ([.box (encPicks p1) true]) (by simp) rfl (@c2) (.it j0 (.eh encEdge he (.c (@c3)
    (Sat.pFin ((0:Int)) 2 (0) (by kernel_rfl) rfl (by decide) (Sat.pFin (IntKind.i64.wrap ((1:Int)-(0:Int))) 2 (1) (by kernel_rfl) rfl (by decide) .r)))))))))))))
  ·refine⟨⟨4,e.B,e.A,0,0,[],[],[]⟩,p3, ?_,⟨by simp,by simp only;omega,by simp,by simp,by simp,by simp⟩,l3⟩
   clear h4 hm e2
   refine spec_of ok Go.Proofs.Tryz.func112 ok112 ?_
   refine(.c (@c1) (.iF e1 (.it e20 (.it e20 (.it e20 (.et (0<(↑(List.map encEdge m.Edges).length:Int)) (by simp only[List.length_map,ciLt]) e21 (.b (.C ([.ref
    (.inc 0) 0 0,.int .i64 (↑(List.map encEdge m.Edges).length:Int)]) ([.box (encPicks p1) true]) (by simp) rfl (@c2) (.it j0 (.eh encEdge he (.c (@c3)
    (Sat.pFin ((1:Int)) 2 (1) (by kernel_rfl) rfl (by decide) (Sat.pFin (IntKind.i64.wrap ((1:Int)-(1:Int))) 2 (0) (by kernel_rfl) rfl (by decide) .r)))))) (.C ([.ref
    (.inc 0) 0 0,.int .i64 (↑(List.map encEdge m.Edges).length:Int)]) ([.box (encPicks p1) true]) (by simp) rfl (@c2) (.it j0 (.eh encEdge he (.c (@c3)
    (Sat.pFin ((1:Int)) 2 (1) (by kernel_rfl) rfl (by decide) (Sat.pFin (IntKind.i64.wrap ((1:Int)-(1:Int))) 2 (0) (by kernel_rfl) rfl (by decide) .r)))))))))))))
 have e3:7≤k∨m.Edges.length=0:=by
  by_cases h:k<7
  ·exact Or.inr (by have:¬0<m.Edges.length:=fun h'=>e2 ⟨h,h'⟩;omega)
  ·exact Or.inl (by omega)
 by_cases e4:k<10
 ·obtain⟨j,p2,c2,j0,j1,l2⟩:=num_ex p1 l1 (m.Fly.length+1) (by omega) (by omega)
  refine⟨⟨5,0,0,j,0,[],[],[]⟩,p2, ?_,⟨by simp,by simp,by simp,by simp,by simp,by simp⟩,l2⟩
  clear h4 e2
  refine spec_of ok Go.Proofs.Tryz.func112 ok112 ?_
  refine(.c (@c1) (.iF e1 (.i (k<7) (fun a2=> .it a2 (.it a2 (.k (0<(↑(List.map encEdge m.Edges).length:Int)) (0<m.Edges.length) (by simp only[List.length_map,ciLt])
   (fun a5=>False.elim (by omega)) (fun a5=> .it e4 (have a6:=wI64' ((↑m.Fly.length:Int)+(1:Int)); .C ([.ref
   (.inc 0) 0 0,.int .i64 (IntKind.i64.wrap ((↑(List.map encGram m.Fly).length:Int)+1))]) ([.box (encPicks p1) true]) (by simp[a6]) rfl (@c2) .r))))) (fun a2=> .iF a2 (.iF a2 (.F (.it e4
   (have a7:=wI64' ((↑m.Fly.length:Int)+(1:Int)); .C ([.ref
   (.inc 0) 0 0,.int .i64 (IntKind.i64.wrap ((↑(List.map encGram m.Fly).length:Int)+1))]) ([.box (encPicks p1) true]) (by simp[a7]) rfl (@c2) .r))))))))
 by_cases e5:k=10
 ·obtain⟨j,p2,c2,j0,j1,l2⟩:=num_ex p1 l1 2 (by omega) (by omega)
  obtain⟨i,p3,c3,i0,i1,l3⟩:=num_ex p2 l2 (m.Fly.length+1) (by omega) (by omega)
  refine⟨⟨IntKind.i64.wrap (6+j),0,0,i,0,[],[],[]⟩,p3, ?_,⟨by simp only;rw[wI64 (by omega) (by omega)];omega,by simp,by simp,by simp,by simp,fun h=>absurd h (by simp only;rw[wI64 (by omega) (by omega)];omega)⟩,l3⟩
  clear h4 e2
  refine spec_of ok Go.Proofs.Tryz.func112 ok112 ?_
  refine(.c (@c1) (.iF e1 (.i (k<7) (fun a3=>False.elim (by omega)) (fun a3=> .iF a3 (.iF a3 (.F (.iF e4 (.it e5 (.c (@c2) (have a8:=wI64' ((↑m.Fly.length:Int)+(1:Int)); .C ([.ref
   (.inc 0) 0 0,.int .i64 (IntKind.i64.wrap ((↑(List.map encGram m.Fly).length:Int)+1))]) ([.box (encPicks p2) true]) (by simp[a8]) rfl (@c3) (.r)))))))))))
 obtain⟨i,p2,c2,i0,i1,l2⟩:=num_ex p1 l1 (m.Fly.length+1) (by omega) (by omega)
 obtain⟨a,p3,c3,a0,a1,l3⟩:=num_ex p2 l2 256 (by omega) (by omega)
 obtain⟨b,p4,c4,b0,b1,l4⟩:=num_ex p3 l3 255 (by omega) (by omega)
 refine⟨⟨8,0,IntKind.i64.wrap (IntKind.i64.wrap (IntKind.i64.wrap (a*256)+1)+b),i,0,[],[],[]⟩,p4, ?_,⟨by simp,by simp only;rw[wI64 (n:=a*256) (by omega) (by omega),wI64 (n:=a*256+1) (by omega) (by omega),wI64 (by omega) (by omega)];omega,by simp,by simp,by simp,by simp⟩,l4⟩
 clear h4 e2
 refine spec_of ok Go.Proofs.Tryz.func112 ok112 ?_
 refine(.c (@c1) (.iF e1 (.i (k<7) (fun a4=>False.elim (by omega)) (fun a4=> .iF a4 (.iF a4 (.F (.iF e4 (.iF e5 (have a9:=wI64' ((↑m.Fly.length:Int)+(1:Int)); .C ([.ref
  (.inc 0) 0 0,.int .i64 (IntKind.i64.wrap ((↑(List.map encGram m.Fly).length:Int)+1))]) ([.box (encPicks p1) true]) (by simp[a9]) rfl (@c2) (.c (@c3) (.c (@c4) (.r))))))))))))
end Go.Ab.Tryz
