/- Package cardamomref25: Round. -/
import Derived.Test.YtmhceknpmokahaaGreatDoorRef25f
namespace Go.Ab.Tryz
open Go
set_option maxRecDepth 100000
set_option maxHeartbeats 4000000
theorem round_ex (m:Mesh) (size k:Nat) (B:Int) (h:m.Ok size B k) (hB2:B≤900000000):∃m':Mesh,X.call 62 [encMesh m] [] ⟨encMesh m',[],[]⟩∧m'.Ok size (B+100) k:=by
 have hel:=h.el
 refine spec_ex ok Go.Proofs.Tryz.func62 ok62 ?_
 refine ?_
 refine SatE.pLoop 3 (St.mk [(1,.ref (.head 1 0) 0 0),(2,.ref (.head 2 0) 0 0),(3,.int .i64 (↑(List.map encEdge m.Edges).length:Int)),(4,.int .i64 0)] [(.head 1 0,.box (encMesh m) true),
  (.head 2 0,.box (.agg [.int .i64 0,.int .i64 0,.nils,.nils,.nils,.nils]) true)]) (by kernel_rfl) (fun(p:Nat×Mesh)=>⟨[(1,.ref (.head 1 0) 0 0),(2,.ref
  (.head 2 0) 0 0),(3,.int .i64 m.Edges.length),(4,.int .i64 p.1)],[(.head 1 0,.box (encMesh p.2) true),(.head 2 0,.box
  (.agg [.int .i64 0,.int .i64 0,.nils,.nils,.nils,.nils]) true)]⟩) (fun p=>p.1≤2*m.Edges.length∧p.2.Edges=m.Edges∧p.2.Ok size (B+2*p.1) k) (fun p=>2*m.Edges.length-p.1) (0,m) (by(simp[encMesh];done)) ?_ ?_
 ·exact⟨by simp,rfl,by simpa using h⟩
 ·rintro⟨i,q⟩ hI again
  obtain⟨i1,i2,i3⟩:=hI
  simp only at i1 i2 i3
  refine(have a1:=wI64' ((2:Int)*(↑m.Edges.length:Int)); .k ((↑i:Int)<IntKind.i64.wrap (2*(↑m.Edges.length:Int))) ((↑i:Int)<2*(↑m.Edges.length:Int)) (by simp only[a1])
   (fun a4=>have a2:=wI64' ((2:Int)*(↑m.Edges.length:Int)-(1:Int));have a3:=wI64' ((2:Int)*(↑m.Edges.length:Int)-(1:Int)-(↑i:Int)); .k (0≤if IntKind.i64.wrap (IntKind.i64.wrap (IntKind.i64.wrap (2*(↑m.Edges.length:Int))-1)-(↑i:Int))<(↑i:Int)then IntKind.i64.wrap (IntKind.i64.wrap (IntKind.i64.wrap (2*(↑m.Edges.length:Int))-1)-(↑i:Int))else(↑i:Int)) (0≤if 2*(↑m.Edges.length:Int)-1-(↑i:Int)<(↑i:Int)then 2*(↑m.Edges.length:Int)-1-(↑i:Int)else(↑i:Int)) (by simp only[a3,a2,a1])
   (fun a5=> .eM encEdge q.Edges ((if IntKind.i64.wrap (IntKind.i64.wrap (IntKind.i64.wrap (2*(↑m.Edges.length:Int))-1)-(↑i:Int))<(↑i:Int)then IntKind.i64.wrap (IntKind.i64.wrap (IntKind.i64.wrap (2*(↑m.Edges.length:Int))-1)-(↑i:Int))else(↑i:Int)).toNat) ((if 2*(↑m.Edges.length:Int)-1-(↑i:Int)<(↑i:Int)then 2*(↑m.Edges.length:Int)-1-(↑i:Int)else(↑i:Int)).toNat) (by simp only[a3,a2,a1]) (by(clear again;(rw[i2];split<;>omega)))
   (fun a0 a6=>SatE.pFin ((0:Int)) 2 (0) (by kernel_rfl) rfl (by decide) (SatE.pFin ((1:Int)) 2 (1) (by kernel_rfl) rfl (by decide) ?_))) (fun a5=>False.elim (by omega)))
   (fun a4=> .r (Mesh.mk q.Size q.Batch q.Edges q.Repls q.Fly q.Issued) (by(clear again;(exact i3.mono (by omega) (by omega))))))
  have hd:=i3.ed _ (List.mem_of_getElem? a6)
  obtain⟨m1,t1,o1,d1⟩:=tell_ex q a0.A a0.B size k _ i3 (by omega) (by omega) (by omega) (by omega) (by omega)
  obtain⟨m2,t2,o2,d2⟩:=tell_ex m1 a0.B a0.A size k _ o1 (by omega) (by omega) (by omega) (by omega) (by omega)
  have o3:=o2.mono (B':=B+2*((i+1:Nat):Int)) (k':=k) (by omega) (by omega)
  have d3:=d2.trans (d1.trans i2)
  refine(.c (@t1) (SatE.pFin ((1:Int)) 2 (1) (by kernel_rfl) rfl (by decide) (SatE.pFin ((0:Int)) 2 (0) (by kernel_rfl) rfl (by decide) (.c (@t2)
   (have a7:=wI64' ((↑i:Int)+(1:Int)); .A (St.mk [(1,.ref (.head 1 0) 0 0),(2,.ref
   (.head 2 0) 0 0),(3,.int .i64 (↑m.Edges.length:Int)),(4,.int .i64 (IntKind.i64.wrap ((↑i:Int)+1)))] [(.head 1 0,.box (encMesh m2) true),(.head 2 0,.box
   (.agg [.int .i64 0,.int .i64 0,.nils,.nils,.nils,.nils]) true)]) (by simp[encMesh,a7]) (again ((i+(1:Nat),Mesh.mk m2.Size m2.Batch m2.Edges m2.Repls m2.Fly m2.Issued)) ⟨(by dsimp only;omega),⟨(by dsimp only;omega),(by dsimp only;omega)⟩⟩ (by dsimp only;omega)))))))
end Go.Ab.Tryz
