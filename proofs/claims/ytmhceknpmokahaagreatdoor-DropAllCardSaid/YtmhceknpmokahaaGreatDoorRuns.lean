/- Package cardamomplay: runs of meshes that play picks. -/
import Derived.Test.YtmhceknpmokahaaGreatDoorPlay4
import Derived.Test.YtmhceknpmokahaaGreatDoorTopo
import Derived.Test.YtmhceknpmokahaaGreatDoorRef25f
import Derived.Test.YtmhceknpmokahaaGreatDoorRef25a
namespace Go.Ab.Tryz
open Go
set_option maxRecDepth 100000
set_option maxHeartbeats 4000000
theorem new_yes (n:Nat) (edges:List Edge) (batch quota:Int) (hl:edges.length≤10000) (h1:1≤n) (h5:n≤5) (b0:1≤batch) (b1:batch≤4) (q0:0≤quota) (q1:quota≤8) (cM:X.call 163 [.int .i64 n,.tree (edges.map encEdge)] [] ⟨.bool true,[],[]⟩):X.call 107 [.int .i64 n,.tree (edges.map encEdge),.int .i64 batch,.int .i64 quota] [] ⟨.tuple [encMesh (newMesh n edges batch quota),.bool true],[],[]⟩:=by
 refine spec_of ok Go.Proofs.Tryz.func107 ok107 ?_
 refine(.c (@cM) (.F (.F (.F (.i (batch<1) (fun a0=>False.elim (by omega)) (fun a0=> .iF a0 (.iF a0 (.i (4<batch) (fun a1=>False.elim (by omega)) (fun a1=> .iF a1 (.iF a1
  (.i (quota<0) (fun a2=>False.elim (by omega)) (fun a2=> .iF a2 (.iF a2 (.i (8<quota) (fun a4=>False.elim (by omega)) (fun a4=> .z encEdge edges 2 (fun _=>rfl)
  (.k ((0+(List.map encEdge edges).length)*(16:Nat)≤140737488355328) ((0+edges.length)*(16:Nat)≤140737488355328) (by simp only[List.length_map]) (fun a5=> .T ?_)
  (fun a5=>False.elim (by omega))))))))))))))))))
 refine Sat.pUnroll 5 (St.mk [(0,.int .i64 (↑n:Int)),(3,.int .i64 quota),(8,.ref (.head 8 0) 0 0),(10,.ref (.head 10 0) 0 0),(11,.int .i64 1)] [(.head 8 0,.box
  (.agg [.int .i64 0,.int .i64 0,.nils,.nils,.nils,.nils]) true),(.head 10 0,.box (.agg [.int .i64 (↑n:Int),.int .i64 batch,.sref
  (.head 10 1) 0 (0+(List.map encEdge edges).length),.nils,.nils,.nils]) true),(.head 10 1,.row 2 (List.map encEdge edges) true true)]) (by kernel_rfl) ?_
 refine(.et (1≤(↑n:Int)) (by simp only[ciLe]) h1 (.c (@Tryz.c50 ((1:Nat)) (n) (quota) (by omega) ‹_› ‹_› ‹_› ‹_›) (.T (have a9:=wI64' ((1:Int)+(1:Int)); ?_))))
 refine Sat.pLoop 5 (St.mk [(0,.int .i64 (↑n:Int)),(3,.int .i64 quota),(8,.ref (.head 8 0) 0 0),(10,.ref (.head 10 0) 0 0),(11,.int .i64 (IntKind.i64.wrap (1+1)))] [(.head 8 0,.box
  (.agg [.int .i64 0,.int .i64 0,.nils,.nils,.nils,.nils]) true),(.head 10 0,.box (.agg [.int .i64 (↑n:Int),.int .i64 batch,.sref (.head 10 1) 0 (0+(List.map encEdge edges).length),.sref
  (.head 10 2) 0 1,.nils,.nils]) true),(.head 10 1,.row 2 (List.map encEdge edges) true true),
  (.head 10 2,.row 7 [encRepl (newRepl 1 n quota)] true true)]) (by kernel_rfl) (fun(p:Nat×List Repl)=>⟨[(0,.int .i64 n),(3,.int .i64 quota),(8,.ref (.head 8 0) 0 0),(10,.ref
  (.head 10 0) 0 0),(11,.int .i64 p.1)],[(.head 8 0,.box (.agg [.int .i64 0,.int .i64 0,.nils,.nils,.nils,.nils]) true),(.head 10 0,.box (.agg [.int .i64 n,.int .i64 batch,.sref
  (.head 10 1) 0 edges.length,.sref (.head 10 2) 0 p.2.length,.nils,.nils]) true),(.head 10 1,.row 2 (edges.map encEdge) true true),
  (.head 10 2,.row 7 (p.2.map encRepl) true true)]⟩) (fun p=>2≤p.1∧p.1≤n+1∧p.2=(List.range (p.1-1)).map fun i=>newRepl (i+1) n quota) (fun p=>n+1-p.1) (2,[newRepl 1 n quota]) (by(simp[encRepl,show IntKind.i64.wrap 2=2 from rfl];done)) ?_ ?_
 ·exact⟨by simp,by dsimp only;omega,rfl⟩
 ·rintro⟨k,rs⟩ hI again
  obtain⟨k1,k2,k3⟩:=hI
  simp only at k1 k2 k3
  have k4:rs.length+1=k:=by rw[k3];simp;omega
  have k5:(List.range k).map (fun i=>newRepl (i+1) n quota)=(List.range (k-1)).map (fun i=>newRepl (i+1) n quota)++[newRepl k n quota]:=by
   obtain⟨j,rfl⟩:∃j,k=j+1:=⟨k-1,by omega⟩
   rw[List.range_succ,List.map_append];simp
  refine(.k ((↑k:Int)≤(↑n:Int)) (k≤n) (by simp only[Int.ofNat_le]) (fun a6=> .c (@Tryz.c50 (k) (n) (quota) (by omega) ‹_› ‹_› ‹_› ‹_›) (.i ((rs.length+1)*(88:Nat)≤140737488355328)
   (fun a7=> .k (rs.length=(List.map encRepl rs).length) (True) (by simp only[List.length_map])
   (fun a3=>have a8:=wI64' ((↑k:Int)+(1:Int)); .A (St.mk [(0,.int .i64 (↑n:Int)),(3,.int .i64 quota),(8,.ref (.head 8 0) 0 0),(10,.ref
   (.head 10 0) 0 0),(11,.int .i64 (IntKind.i64.wrap ((↑k:Int)+1)))] [(.head 8 0,.box (.agg [.int .i64 0,.int .i64 0,.nils,.nils,.nils,.nils]) true),(.head 10 0,.box
   (.agg [.int .i64 (↑n:Int),.int .i64 batch,.sref (.head 10 1) 0 edges.length,.sref (.head 10 2) 0 (rs.length+1),.nils,.nils]) true),(.head 10 1,.row 2 (List.map encEdge edges) true true),
   (.head 10 2,.row 7 (List.map encRepl rs++[encRepl (newRepl k n quota)]) true true)]) (by simp[encRepl,a8]) (again ((k+(1:Nat),rs++[newRepl k n quota])) ⟨(by dsimp only;omega),⟨(by dsimp only;omega),(by dsimp only;(clear cM again;(rw[Nat.add_sub_cancel,k5,←k3])))⟩⟩ (by dsimp only;omega)))
   (fun a3=>(a3 trivial).elim)) (fun a7=>False.elim (by omega))))
   (fun a6=>have aa:List.take edges.length (List.map encEdge edges)=List.map encEdge edges:=List.take_of_length_le (by simp);have ab:List.take rs.length (List.map encRepl rs)=List.map encRepl rs:=List.take_of_length_le (by simp); .q (Res.mk (AV.tuple [.agg [.int .i64 (↑n:Int),.int .i64 batch,.tree (List.take edges.length (List.map encEdge edges)),.tree (List.take rs.length (List.map encRepl rs)),.tree [],.tree []],.bool true]) [] []) (by(clear cM again;(rw[show k-1=n by omega]at k3;simp[newMesh,encMesh,←k3,List.take_of_length_le];done)))))
abbrev RunOk (j:Nat) (m:Mesh):Prop:=∃size,m.Ok size (1+j) j
theorem mesh_ex (p:Picks) (hp:p.l.length≤100000) (quota:Int) (q0:0≤quota) (q8:quota≤8):∃(m:Mesh) (q:Picks),X.call 61 [.ref (.inc 0) 0 0,.int .i64 quota] [.box (encPicks p) true] ⟨encMesh m,[.box (encPicks q) true],[]⟩∧RunOk 0 m∧q.l.length≤100000:=by
 obtain⟨r,p1,c1,r0,r1,l1⟩:=num_ex p hp 4 (by omega) (by omega)
 obtain⟨n,hn⟩:∃n:Nat,(n:Int)=1+r:=⟨(1+r).toNat,by omega⟩
 obtain⟨⟨es,p2⟩,c2,e1,l2,e2⟩:=c113 p1 l1 n (by omega) (by omega)
 simp only at c2 e1 l2 e2
 obtain⟨b,p3,c3,b0,b1,l3⟩:=num_ex p2 (by rw[l2];exact l1) 4 (by omega) (by omega)
 have c4:=new_yes n es (1+b) quota (by omega) (by omega) (by omega) (by omega) (by omega) q0 q8 (topo_yes e2 (by omega) (by omega))
 have ok:=newMesh_ok (B:=1+((0:Nat):Int)) (k:=0) (quota:=quota) (batch:=1+b) (by omega:1≤n) (by omega) (by omega) (by omega) (by omega) e2.r e1 q0
 rw[hn]at c2 c4
 refine⟨newMesh n es (1+b) quota,p3, ?_,⟨n,ok⟩,l3⟩
 generalize newMesh n es (1+b) quota=m at*
 clear ok e2 l2 e1
 refine spec_of ok Go.Proofs.Tryz.func61 ok61 ?_
 refine(.c (@c1) (have a0:=wI64' ((1:Int)+r); .C ([.ref (.inc 0) 0 0,.int .i64 (IntKind.i64.wrap (1+r))]) ([.box (encPicks p1) true]) (by simp only[a0]) rfl (@c2) (.c (@c3)
  (have a1:=wI64' ((1:Int)+b); .C ([.int .i64 (IntKind.i64.wrap (1+r)),.tree (List.map encEdge es),.int .i64 (IntKind.i64.wrap (1+b)),.int .i64 quota]) ([]) (by simp only[a1,a0]) rfl (@c4) .r))))
theorem step_do (j:Nat) (hj:j≤9000) (m:Mesh) (hm:RunOk j m) (p:Picks) (hp:p.l.length≤100000):∃(s:Step) (q:Picks) (m':Mesh) (e:Int),X.call 112 [.ref (.inc 0) 0 0,encMesh m] [.box (encPicks p) true] ⟨encStep s,[.box (encPicks q) true],[]⟩∧X.call 108 [encMesh m,encStep s] [] ⟨.tuple [encMesh m',.int .i64 e],[],[]⟩∧RunOk (j+1) m'∧q.l.length≤100000:=by
 obtain⟨size,h⟩:=hm
 obtain⟨s,q,c,hs,l⟩:=step_ex p hp m (by have:=h.sz;have:=h.s5;omega) h.el h.fl (fun e he=>by have:=h.ed e he;have:=h.s5;omega)
 obtain⟨⟨m',e⟩,c2,h2⟩:=do_ex m s size j _ h (by omega) hj hs.2.2.1 hs.2.2.2.1 hs.2.2.2.2.1 hs.2.1 hs.1 hs.2.2.2.2.2
 refine⟨s,q,m',e,c,c2,⟨size, ?_⟩,l⟩
 rw[show(1:Int)+((j+1:Nat):Int)=1+j+1 by omega];exact h2
theorem RunOk.mono {j j':Nat} {m:Mesh} (h:RunOk j m) (hj:j≤j'):RunOk j' m:=by
 obtain⟨size,h⟩:=h
 exact⟨size,h.mono (by omega) hj⟩
theorem run_ex (m:Mesh) (hm:RunOk 0 m) (p:Picks) (hp:p.l.length≤100000) (most:Nat) (hmost:most≤9000):∃(o:Mesh×Picks),X.call 60 [.ref (.inc 0) 0 0,encMesh m,.int .i64 most] [.box (encPicks p) true] ⟨encMesh o.1,[.box (encPicks o.2) true],[]⟩∧RunOk most o.1∧o.2.l.length≤100000:=by
 refine spec_ex ok Go.Proofs.Tryz.func60 ok60 ?_
 refine ?_
 refine SatE.pLoop 2 (St.mk [(0,.ref (.inc 0) 0 0),(2,.int .i64 (↑most:Int)),(4,.ref (.head 4 0) 0 0),(6,.ref (.head 6 0) 0 0),(7,.int .i64 0)] [(.inc 0,.box (encPicks p) true),
  (.head 4 0,.box (encMesh m) true),(.head 6 0,.box (.agg [.int .i64 0,.int .i64 0,.nils,.nils,.nils,.nils]) true)]) (by kernel_rfl) (fun(s:Nat×Picks×Mesh)=>⟨[(0,.ref
  (.inc 0) 0 0),(2,.int .i64 most),(4,.ref (.head 4 0) 0 0),(6,.ref (.head 6 0) 0 0),(7,.int .i64 s.1)],[(.inc 0,.box (encPicks s.2.1) true),(.head 4 0,.box (encMesh s.2.2) true),
  (.head 6 0,.box (.agg [.int .i64 0,.int .i64 0,.nils,.nils,.nils,.nils]) true)]⟩) (fun s=>s.1≤most∧RunOk s.1 s.2.2∧s.2.1.l.length≤100000) (fun s=>most-s.1) (0,p,m) rfl ?_ ?_
 ·exact⟨by simp,hm,hp⟩
 ·rintro⟨i,q,w⟩ hI again
  obtain⟨i1,i2,i3⟩:=hI
  simp only at i1 i2 i3
  obtain⟨s,q2,w2,e,cS,cD,o2,l2⟩:=step_do i (by omega) w i2 q i3
  refine(.k ((↑i:Int)<(↑most:Int)) (i<most) (by simp only[Int.ofNat_lt]) (fun a0=> .et ((↑i:Int)<(↑most:Int)) (by simp only[Int.ofNat_lt]) a0 (.c (@Tryz.c111 (q) ‹_›)
   (.et ((↑i:Int)<(↑most:Int)) (by simp only[Int.ofNat_lt]) a0 (.et ((↑i:Int)<(↑most:Int)) (by simp only[Int.ofNat_lt]) a0 (.j (q.l.length≤q.n) (fun a1=> .c (@cS) (.c (@cD)
   (have a2:=wI64' ((↑i:Int)+(1:Int)); .A (St.mk [(0,.ref (.inc 0) 0 0),(2,.int .i64 (↑most:Int)),(4,.ref (.head 4 0) 0 0),(6,.ref
   (.head 6 0) 0 0),(7,.int .i64 (IntKind.i64.wrap ((↑i:Int)+1)))] [(.inc 0,.box (encPicks q2) true),(.head 4 0,.box (encMesh w2) true),(.head 6 0,.box
   (.agg [.int .i64 0,.int .i64 0,.nils,.nils,.nils,.nils]) true)]) (by simp[encPicks,encMesh,a2]) (again ((i+(1:Nat),Picks.mk q2.l q2.n,Mesh.mk w2.Size w2.Batch w2.Edges w2.Repls w2.Fly w2.Issued)) ⟨(by dsimp only;omega),⟨(by dsimp only;omega),(by dsimp only;omega)⟩⟩ (by dsimp only;omega)))))
   (fun a1=> .r (Mesh.mk w.Size w.Batch w.Edges w.Repls w.Fly w.Issued,Picks.mk q.l q.n) ⟨(by dsimp only;(clear again cS cD;(exact RunOk.mono i2 i1))),(by dsimp only;(clear again cS cD;trivial))⟩))))))
   (fun a0=> .eF ((↑i:Int)<(↑most:Int)) (by simp only[Int.ofNat_lt]) a0 (.eF ((↑i:Int)<(↑most:Int)) (by simp only[Int.ofNat_lt]) a0
   (.eF ((↑i:Int)<(↑most:Int)) (by simp only[Int.ofNat_lt]) a0 (.F
   (.r (Mesh.mk w.Size w.Batch w.Edges w.Repls w.Fly w.Issued,Picks.mk q.l q.n) ⟨(by dsimp only;(clear again cS cD;(exact RunOk.mono i2 i1))),(by dsimp only;(clear again cS cD;trivial))⟩))))))
theorem repl_ex (p:Picks) (hp:p.l.length≤100000) (most:Nat) (hmost:most≤9000):∃(r:Repl) (q:Picks) (m:Mesh) (size:Nat),X.call 18 [.ref (.inc 0) 0 0,.int .i64 most] [.box (encPicks p) true] ⟨encRepl r,[.box (encPicks q) true],[]⟩∧m.Ok size (1+most) most∧r∈m.Repls∧q.l.length≤100000:=by
 obtain⟨u,p1,c1,u0,u1,l1⟩:=num_ex p hp 9 (by omega) (by omega)
 obtain⟨m0,p2,c2,o2,l2⟩:=mesh_ex p1 l1 u (by omega) (by omega)
 obtain⟨⟨m,p3⟩,c3,o3,l3⟩:=run_ex m0 o2 p2 l2 most hmost
 simp only at c3 o3 l3
 obtain⟨size,h⟩:=o3
 have hrl:=h.rl
 have hs1:=h.s1
 have hs5:=h.s5
 obtain⟨i,p4,c4,i0,i1,l4⟩:=num_ex p3 l3 m.Repls.length (by omega) (by omega)
 obtain⟨r,hr⟩:∃r,m.Repls[i.toNat]? =some r:=⟨m.Repls[i.toNat]'(by omega),by simp⟩
 refine⟨r,p4,m,size, ?_,h,List.mem_of_getElem? hr,l4⟩
 clear h o2
 refine spec_of ok Go.Proofs.Tryz.func18 ok18 ?_
 refine(.c (@c1) (.c (@c2) (.c (@c3) (.C ([.ref (.inc 0) 0 0,.int .i64 (↑(List.map encRepl m.Repls).length:Int)]) ([.box (encPicks p3) true]) (by simp) rfl (@c4) (.it i0 (.eh encRepl hr .r))))))
end Go.Ab.Tryz
