/- Package cardamomref16: numbers and texts as bytes, as plain Lean. -/
import Derived.Test.YtmhceknpmokahaaGreatDoorRef1f
import Derived.Test.YtmhceknpmokahaaGreatDoorG3
namespace Go.Ab.Tryz
open Go
set_option maxRecDepth 100000
set_option maxHeartbeats 4000000
theorem c243 (b:Bool):X.call 243 [.bool b] [] ⟨.int .i64 b.toNat,[],[]⟩:=by
 refine spec_of ok Go.Proofs.Tryz.func243 ok243 ?_
 refine(.n b (fun _h2=> .q (Res.mk (.int .i64 1) [] []) (by simp_all)) (fun _h2=> .q (Res.mk (.int .i64 0) [] []) (by simp_all)))
theorem putNum_call (b:List UInt8) (v:Nat) (hb:b.length≤100000) (hv:v≤1000000000):X.call 212 [.tree (b.map encB),.int .i64 v] [] ⟨.sref (.out 0) 0 (b++numB v).length,[],[.row 1 ((b++numB v).map encB) true true]⟩:=by
 refine spec_of ok Go.Proofs.Tryz.func212 ok212 ?_
 refine(.z encB b 1 (fun _=>rfl) (.k ((0+(List.map encB b).length)*(1:Nat)≤140737488355328) ((0+b.length)*(1:Nat)≤140737488355328) (by simp only[List.length_map]) (fun _h5=> .T ?_)
  (fun _h5=>False.elim (by omega))))
 have hn:=numB_len v hv
 refine Sat.pLoop 2 (St.mk [(1,.int .i64 (↑v:Int)),(5,.sref
  (.head 5 0) 0 (0+(List.map encB b).length))] [(.head 5 0,.row 1 (List.map encB b) true true)]) (by kernel_rfl) (fun(p:Nat×List UInt8)=>⟨[(1,.int .i64 p.1),(5,.sref
  (.head 5 0) 0 p.2.length)],[(.head 5 0,.row 1 (p.2.map encB) true true)]⟩) (fun p=>p.1≤1000000000∧p.2.length≤100005∧p.2++numB p.1=b++numB v) (fun p=>p.1) (v,b) (by simp) ?_ ?_
 ·exact⟨by omega,by simp;omega,rfl⟩
 ·rintro⟨w,acc⟩ hI again
  obtain⟨h1,h2,h3⟩:=hI
  simp only at h1 h2 h3
  have h4:=congrArg List.length h3
  simp only[List.length_append]at h4
  have h5:0<(numB w).length:=by rw[numB];split<;>simp
  refine(.k (128≤(↑w:Int)) (128≤w) (by simp only[ciLe]) (fun a2=> .T (.i ((acc.length+1)*(1:Nat)≤140737488355328)
   (fun a3=> .k (acc.length=(List.map encB acc).length) (True) (by simp only[List.length_map]) (fun a0=> .T
   (have a4:(↑w:Int).tdiv (128:Int)=(↑w:Int) / (128:Int):=Int.tdiv_eq_ediv_of_nonneg (by omega);have a5:=wI64' ((↑w:Int) / (128:Int));have a6:(↑w:Int).tmod (128:Int)=(↑w:Int)%(128:Int):=Int.tmod_eq_emod_of_nonneg (by omega);have a7:=wI64' ((↑w:Int)%(128:Int)+(128:Int));have a8:=wU8' ((↑w:Int)%(128:Int)+(128:Int)); .A (St.mk [(1,.int .i64 (IntKind.i64.wrap ((↑w:Int).tdiv 128))),(5,.sref
   (.head 5 0) 0 (acc.length+1))] [(.head 5 0,.row 1 (List.map encB acc++[.int .u8 (IntKind.u8.wrap (IntKind.i64.wrap ((↑w:Int).tmod 128+128)))]) true true)]) (by(clear again;(simp[encI,encWord,encRd,encBr,encB_fun,encPicks,encAttr,encHead,encStamp,encVersion,encView,encRepl,encGossip,encGram,encEdge,encStep,encMesh,List.map_append,List.map_cons,List.map_nil,a8,a7,a6,a5,a4];omega))) (again ((w/ (128:Nat),acc++[UInt8.ofNat (w%(128:Nat)+(128:Nat))])) ⟨(by dsimp only;omega),⟨(by dsimp only;(clear again;(simp;omega))),(by dsimp only;(clear again;(rw[numB_big (by omega)]at h3;simpa using h3)))⟩⟩ (by dsimp only;omega))))
   (fun a0=>(a0 trivial).elim)) (fun a3=>False.elim (by omega)))) (fun a2=> .i ((acc.length+1)*(1:Nat)≤140737488355328)
   (fun a9=> .k (acc.length=(List.map encB acc).length) (True) (by simp only[List.length_map]) (fun a1=>have aa:=wU8' (↑w:Int); .q (Res.mk (.sref
   (.out 0) 0 (acc.length+1)) [] [.row 1 (List.map encB acc++[.int .u8 (IntKind.u8.wrap (↑w:Int))]) true true]) (by(clear again;(rw[←h3,numB_small (by omega)];simp[encB];omega))))
   (fun a1=>(a1 trivial).elim)) (fun a9=>False.elim (by omega))))
theorem c212 (b:List UInt8) (v:Int) (hb:b.length≤100000) (h0:0≤v) (hv:v≤1000000000):X.call 212 [.tree (b.map encB),.int .i64 v] [] ⟨.sref (.out 0) 0 (b++numB v.toNat).length,[],[.row 1 ((b++numB v.toNat).map encB) true true]⟩∧(b++numB v.toNat).length≤b.length+5:=by
 obtain⟨n,rfl⟩:=Int.eq_ofNat_of_zero_le h0
 exact⟨putNum_call b n hb (by omega),by have:=numB_len n (by omega);simp only[List.length_append,Int.toNat_natCast];omega⟩
theorem c244 (b:List UInt8) (hb:b.length≤100000):∃p:Int×Nat×Bool,X.call 244 [.tree (b.map encB)] [] ⟨.tuple [.int .i64 p.1,.int .i64 p.2.1,.bool p.2.2],[],[]⟩∧0≤p.1∧p.1≤1000000000000∧p.2.1≤b.length∧(p.2.2=true→0<p.2.1):=by
 refine spec_ex ok Go.Proofs.Tryz.func244 ok244 ?_
 refine ?_
 refine SatE.pLoop 3 (St.mk [(0,.tree (List.map encB b)),(5,.int .i64 0),(6,.int .i64 1),(7,.int .i64 0)] []) (by kernel_rfl) (fun(p:Nat×Int×Int)=>⟨[(0,.tree (b.map encB)),(5,.int .i64 p.2.1),(6,.int .i64 p.2.2),(7,.int .i64 p.1)],[]⟩) (fun p=>p.1≤b.length∧((p.1=0∧p.2.2=1∧p.2.1=0)∨(p.1=1∧p.2.2=128∧0≤p.2.1∧p.2.1<128)∨(p.1=2∧p.2.2=16384∧0≤p.2.1∧p.2.1<16384)∨(p.1=3∧p.2.2=2097152∧0≤p.2.1∧p.2.1<2097152)∨(p.1=4∧p.2.2=268435456∧0≤p.2.1∧p.2.1<268435456)∨(p.1=5∧p.2.2=34359738368∧0≤p.2.1∧p.2.1<34359738368))) (fun p=>5-p.1) (0,0,1) rfl ?_ ?_
 ·exact⟨by omega,.inl ⟨rfl,rfl,rfl⟩⟩
 ·rintro⟨k,v,y⟩ hI again
  obtain⟨h1,h2⟩:=hI
  simp only at h1 h2
  rcases h2 with⟨rfl,rfl,rfl⟩|⟨rfl,rfl,h2,h3⟩|⟨rfl,rfl,h2,h3⟩|⟨rfl,rfl,h2,h3⟩|⟨rfl,rfl,h2,h3⟩|⟨rfl,rfl,h2,h3⟩
  ·refine(.k (0<(↑(List.map encB b).length:Int)) (0<b.length) (by simp only[List.length_map,ciLt])
    (fun a6=> .et (0<(↑(List.map encB b).length:Int)) (by simp only[List.length_map,ciLt]) a6 (.et (0<(↑(List.map encB b).length:Int)) (by simp only[List.length_map,ciLt]) a6 (.T (.T
    (.em encB b 0 ‹_› (fun a2 aj=> .T (.T (.eh encB aj (have ak:a2.toNat<(256:Nat):=UInt8.toNat_lt _; .k ((↑a2.toNat:Int)<128) (a2.toNat<128) (by simp only[icLt])
    (fun a1=> .F (.F (.F (.F (.F (.F (.F
    (have al:(↑a2.toNat:Int).tmod (128:Int)=(↑a2.toNat:Int)%(128:Int):=Int.tmod_eq_emod_of_nonneg (by omega);have am:=wI64' ((↑a2.toNat:Int)%(128:Int));have an:=wI64' ((↑a2.toNat:Int)%(128:Int)*(1:Int));have ao:=wI64' ((0:Int)+(↑a2.toNat:Int)%(128:Int)*(1:Int));have ap:=wI64' ((0:Int)+(1:Int)); .q (Res.mk (AV.tuple [.int .i64 (IntKind.i64.wrap (0+IntKind.i64.wrap (IntKind.i64.wrap ((↑a2.toNat:Int).tmod 128)*1))),.int .i64 (IntKind.i64.wrap (0+1)),.bool true]) [] []) ⟨((0:Int)+(↑a2.toNat:Int)%(128:Int)*(1:Int),(0:Nat)+(1:Nat),Bool.true),(by(clear again;simp_all)),⟨(by dsimp only;omega),⟨(by dsimp only;omega),⟨(by dsimp only;(clear again;trivial)),(by dsimp only;(clear again;trivial))⟩⟩⟩⟩))))))))
    (fun a1=>have a7:(↑a2.toNat:Int).tmod (128:Int)=(↑a2.toNat:Int)%(128:Int):=Int.tmod_eq_emod_of_nonneg (by omega);have a8:=wI64' ((↑a2.toNat:Int)%(128:Int));have a9:=wI64' ((↑a2.toNat:Int)%(128:Int)*(1:Int));have aa:=wI64' ((0:Int)+(↑a2.toNat:Int)%(128:Int)*(1:Int));have ab:=wI64' ((1:Int)*(128:Int));have ac:=wI64' ((0:Int)+(1:Int)); .A (St.mk [(0,.tree (List.map encB b)),(5,.int .i64 (IntKind.i64.wrap (0+IntKind.i64.wrap (IntKind.i64.wrap ((↑a2.toNat:Int).tmod 128)*1)))),(6,.int .i64 (IntKind.i64.wrap (1*128))),(7,.int .i64 (IntKind.i64.wrap (0+1)))] []) (by(clear again;simp_all)) (again (((0:Nat)+(1:Nat),(0:Int)+(↑a2.toNat:Int)%(128:Int)*(1:Int),(1:Int)*(128:Int))) ⟨(by dsimp only;omega),(by dsimp only;omega)⟩ (by dsimp only;omega))))))))))))
    (fun a6=> .eF (0<(↑(List.map encB b).length:Int)) (by simp only[List.length_map,ciLt]) a6 (.eF (0<(↑(List.map encB b).length:Int)) (by simp only[List.length_map,ciLt]) a6 (.F
    (.r (0,0,false) ⟨(by dsimp only;(clear again;trivial)),⟨(by dsimp only;(clear again;trivial)),⟨(by dsimp only;(clear again;trivial)),(by dsimp only;(clear again;trivial))⟩⟩⟩)))))
  ·refine(.k (1<(↑(List.map encB b).length:Int)) (1<b.length) (by simp only[List.length_map,ciLt])
    (fun a1=> .et (1<(↑(List.map encB b).length:Int)) (by simp only[List.length_map,ciLt]) a1 (.et (1<(↑(List.map encB b).length:Int)) (by simp only[List.length_map,ciLt]) a1 (.T (.T
    (.em encB b 1 ‹_› (fun a0 a3=> .T (.T (.eh encB a3 (have ad:a0.toNat<(256:Nat):=UInt8.toNat_lt _; .k ((↑a0.toNat:Int)<128) (a0.toNat<128) (by simp only[icLt])
    (fun a4=> .T (.T (.T (.T (.eh encB a3 (.T (.T (.T (.k ((↑a0.toNat:Int)=0) (a0.toNat=0) (by simp only[icEq])
    (fun a5=> .r (0,0,false) ⟨(by dsimp only;(clear again;trivial)),⟨(by dsimp only;(clear again;trivial)),⟨(by dsimp only;omega),(by dsimp only;(clear again;trivial))⟩⟩⟩)
    (fun a5=>have a7:(↑a0.toNat:Int).tmod (128:Int)=(↑a0.toNat:Int)%(128:Int):=Int.tmod_eq_emod_of_nonneg (by omega);have a8:=wI64' ((↑a0.toNat:Int)%(128:Int));have a9:=wI64' ((↑a0.toNat:Int)%(128:Int)*(128:Int));have aa:=wI64' (v+(↑a0.toNat:Int)%(128:Int)*(128:Int));have ab:=wI64' ((1:Int)+(1:Int)); .q (Res.mk (AV.tuple [.int .i64 (IntKind.i64.wrap (v+IntKind.i64.wrap (IntKind.i64.wrap ((↑a0.toNat:Int).tmod 128)*128))),.int .i64 (IntKind.i64.wrap (1+1)),.bool true]) [] []) ⟨(v+(↑a0.toNat:Int)%(128:Int)*(128:Int),(1:Nat)+(1:Nat),Bool.true),(by(clear again;simp_all)),⟨(by dsimp only;omega),⟨(by dsimp only;omega),⟨(by dsimp only;(clear again;trivial)),(by dsimp only;(clear again;trivial))⟩⟩⟩⟩))))))))))
    (fun a4=>have ac:(↑a0.toNat:Int).tmod (128:Int)=(↑a0.toNat:Int)%(128:Int):=Int.tmod_eq_emod_of_nonneg (by omega);have ae:=wI64' ((↑a0.toNat:Int)%(128:Int));have af:=wI64' ((↑a0.toNat:Int)%(128:Int)*(128:Int));have ag:=wI64' (v+(↑a0.toNat:Int)%(128:Int)*(128:Int));have ah:=wI64' ((128:Int)*(128:Int));have ai:=wI64' ((1:Int)+(1:Int)); .A (St.mk [(0,.tree (List.map encB b)),(5,.int .i64 (IntKind.i64.wrap (v+IntKind.i64.wrap (IntKind.i64.wrap ((↑a0.toNat:Int).tmod 128)*128)))),(6,.int .i64 (IntKind.i64.wrap (128*128))),(7,.int .i64 (IntKind.i64.wrap (1+1)))] []) (by(clear again;simp_all)) (again (((1:Nat)+(1:Nat),v+(↑a0.toNat:Int)%(128:Int)*(128:Int),(128:Int)*(128:Int))) ⟨(by dsimp only;omega),(by dsimp only;omega)⟩ (by dsimp only;omega))))))))))))
    (fun a1=> .eF (1<(↑(List.map encB b).length:Int)) (by simp only[List.length_map,ciLt]) a1 (.eF (1<(↑(List.map encB b).length:Int)) (by simp only[List.length_map,ciLt]) a1 (.F
    (.r (0,0,false) ⟨(by dsimp only;(clear again;trivial)),⟨(by dsimp only;(clear again;trivial)),⟨(by dsimp only;omega),(by dsimp only;(clear again;trivial))⟩⟩⟩)))))
  ·refine(.k (2<(↑(List.map encB b).length:Int)) (2<b.length) (by simp only[List.length_map,ciLt])
    (fun a1=> .et (2<(↑(List.map encB b).length:Int)) (by simp only[List.length_map,ciLt]) a1 (.et (2<(↑(List.map encB b).length:Int)) (by simp only[List.length_map,ciLt]) a1 (.T (.T
    (.em encB b 2 ‹_› (fun a0 a3=> .T (.T (.eh encB a3 (have ad:a0.toNat<(256:Nat):=UInt8.toNat_lt _; .k ((↑a0.toNat:Int)<128) (a0.toNat<128) (by simp only[icLt])
    (fun a4=> .T (.T (.T (.T (.eh encB a3 (.T (.T (.T (.k ((↑a0.toNat:Int)=0) (a0.toNat=0) (by simp only[icEq])
    (fun a5=> .r (0,0,false) ⟨(by dsimp only;(clear again;trivial)),⟨(by dsimp only;(clear again;trivial)),⟨(by dsimp only;omega),(by dsimp only;(clear again;trivial))⟩⟩⟩)
    (fun a5=>have a7:(↑a0.toNat:Int).tmod (128:Int)=(↑a0.toNat:Int)%(128:Int):=Int.tmod_eq_emod_of_nonneg (by omega);have a8:=wI64' ((↑a0.toNat:Int)%(128:Int));have a9:=wI64' ((↑a0.toNat:Int)%(128:Int)*(16384:Int));have aa:=wI64' (v+(↑a0.toNat:Int)%(128:Int)*(16384:Int));have ab:=wI64' ((2:Int)+(1:Int)); .q (Res.mk (AV.tuple [.int .i64 (IntKind.i64.wrap (v+IntKind.i64.wrap (IntKind.i64.wrap ((↑a0.toNat:Int).tmod 128)*16384))),.int .i64 (IntKind.i64.wrap (2+1)),.bool true]) [] []) ⟨(v+(↑a0.toNat:Int)%(128:Int)*(16384:Int),(2:Nat)+(1:Nat),Bool.true),(by(clear again;simp_all)),⟨(by dsimp only;omega),⟨(by dsimp only;omega),⟨(by dsimp only;(clear again;trivial)),(by dsimp only;(clear again;trivial))⟩⟩⟩⟩))))))))))
    (fun a4=>have ac:(↑a0.toNat:Int).tmod (128:Int)=(↑a0.toNat:Int)%(128:Int):=Int.tmod_eq_emod_of_nonneg (by omega);have ae:=wI64' ((↑a0.toNat:Int)%(128:Int));have af:=wI64' ((↑a0.toNat:Int)%(128:Int)*(16384:Int));have ag:=wI64' (v+(↑a0.toNat:Int)%(128:Int)*(16384:Int));have ah:=wI64' ((16384:Int)*(128:Int));have ai:=wI64' ((2:Int)+(1:Int)); .A (St.mk [(0,.tree (List.map encB b)),(5,.int .i64 (IntKind.i64.wrap (v+IntKind.i64.wrap (IntKind.i64.wrap ((↑a0.toNat:Int).tmod 128)*16384)))),(6,.int .i64 (IntKind.i64.wrap (16384*128))),(7,.int .i64 (IntKind.i64.wrap (2+1)))] []) (by(clear again;simp_all)) (again (((2:Nat)+(1:Nat),v+(↑a0.toNat:Int)%(128:Int)*(16384:Int),(16384:Int)*(128:Int))) ⟨(by dsimp only;omega),(by dsimp only;omega)⟩ (by dsimp only;omega))))))))))))
    (fun a1=> .eF (2<(↑(List.map encB b).length:Int)) (by simp only[List.length_map,ciLt]) a1 (.eF (2<(↑(List.map encB b).length:Int)) (by simp only[List.length_map,ciLt]) a1 (.F
    (.r (0,0,false) ⟨(by dsimp only;(clear again;trivial)),⟨(by dsimp only;(clear again;trivial)),⟨(by dsimp only;omega),(by dsimp only;(clear again;trivial))⟩⟩⟩)))))
  ·refine(.k (3<(↑(List.map encB b).length:Int)) (3<b.length) (by simp only[List.length_map,ciLt])
    (fun a1=> .et (3<(↑(List.map encB b).length:Int)) (by simp only[List.length_map,ciLt]) a1 (.et (3<(↑(List.map encB b).length:Int)) (by simp only[List.length_map,ciLt]) a1 (.T (.T
    (.em encB b 3 ‹_› (fun a0 a3=> .T (.T (.eh encB a3 (have ad:a0.toNat<(256:Nat):=UInt8.toNat_lt _; .k ((↑a0.toNat:Int)<128) (a0.toNat<128) (by simp only[icLt])
    (fun a4=> .T (.T (.T (.T (.eh encB a3 (.T (.T (.T (.k ((↑a0.toNat:Int)=0) (a0.toNat=0) (by simp only[icEq])
    (fun a5=> .r (0,0,false) ⟨(by dsimp only;(clear again;trivial)),⟨(by dsimp only;(clear again;trivial)),⟨(by dsimp only;omega),(by dsimp only;(clear again;trivial))⟩⟩⟩)
    (fun a5=>have a7:(↑a0.toNat:Int).tmod (128:Int)=(↑a0.toNat:Int)%(128:Int):=Int.tmod_eq_emod_of_nonneg (by omega);have a8:=wI64' ((↑a0.toNat:Int)%(128:Int));have a9:=wI64' ((↑a0.toNat:Int)%(128:Int)*(2097152:Int));have aa:=wI64' (v+(↑a0.toNat:Int)%(128:Int)*(2097152:Int));have ab:=wI64' ((3:Int)+(1:Int)); .q (Res.mk (AV.tuple [.int .i64 (IntKind.i64.wrap (v+IntKind.i64.wrap (IntKind.i64.wrap ((↑a0.toNat:Int).tmod 128)*2097152))),.int .i64 (IntKind.i64.wrap (3+1)),.bool true]) [] []) ⟨(v+(↑a0.toNat:Int)%(128:Int)*(2097152:Int),(3:Nat)+(1:Nat),Bool.true),(by(clear again;simp_all)),⟨(by dsimp only;omega),⟨(by dsimp only;omega),⟨(by dsimp only;(clear again;trivial)),(by dsimp only;(clear again;trivial))⟩⟩⟩⟩))))))))))
    (fun a4=>have ac:(↑a0.toNat:Int).tmod (128:Int)=(↑a0.toNat:Int)%(128:Int):=Int.tmod_eq_emod_of_nonneg (by omega);have ae:=wI64' ((↑a0.toNat:Int)%(128:Int));have af:=wI64' ((↑a0.toNat:Int)%(128:Int)*(2097152:Int));have ag:=wI64' (v+(↑a0.toNat:Int)%(128:Int)*(2097152:Int));have ah:=wI64' ((2097152:Int)*(128:Int));have ai:=wI64' ((3:Int)+(1:Int)); .A (St.mk [(0,.tree (List.map encB b)),(5,.int .i64 (IntKind.i64.wrap (v+IntKind.i64.wrap (IntKind.i64.wrap ((↑a0.toNat:Int).tmod 128)*2097152)))),(6,.int .i64 (IntKind.i64.wrap (2097152*128))),(7,.int .i64 (IntKind.i64.wrap (3+1)))] []) (by(clear again;simp_all)) (again (((3:Nat)+(1:Nat),v+(↑a0.toNat:Int)%(128:Int)*(2097152:Int),(2097152:Int)*(128:Int))) ⟨(by dsimp only;omega),(by dsimp only;omega)⟩ (by dsimp only;omega))))))))))))
    (fun a1=> .eF (3<(↑(List.map encB b).length:Int)) (by simp only[List.length_map,ciLt]) a1 (.eF (3<(↑(List.map encB b).length:Int)) (by simp only[List.length_map,ciLt]) a1 (.F
    (.r (0,0,false) ⟨(by dsimp only;(clear again;trivial)),⟨(by dsimp only;(clear again;trivial)),⟨(by dsimp only;omega),(by dsimp only;(clear again;trivial))⟩⟩⟩)))))
  ·refine(.k (4<(↑(List.map encB b).length:Int)) (4<b.length) (by simp only[List.length_map,ciLt])
    (fun a1=> .et (4<(↑(List.map encB b).length:Int)) (by simp only[List.length_map,ciLt]) a1 (.et (4<(↑(List.map encB b).length:Int)) (by simp only[List.length_map,ciLt]) a1 (.T (.T
    (.em encB b 4 ‹_› (fun a0 a3=> .T (.T (.eh encB a3 (have ad:a0.toNat<(256:Nat):=UInt8.toNat_lt _; .k ((↑a0.toNat:Int)<128) (a0.toNat<128) (by simp only[icLt])
    (fun a4=> .T (.T (.T (.T (.eh encB a3 (.T (.T (.T (.k ((↑a0.toNat:Int)=0) (a0.toNat=0) (by simp only[icEq])
    (fun a5=> .r (0,0,false) ⟨(by dsimp only;(clear again;trivial)),⟨(by dsimp only;(clear again;trivial)),⟨(by dsimp only;omega),(by dsimp only;(clear again;trivial))⟩⟩⟩)
    (fun a5=>have a7:(↑a0.toNat:Int).tmod (128:Int)=(↑a0.toNat:Int)%(128:Int):=Int.tmod_eq_emod_of_nonneg (by omega);have a8:=wI64' ((↑a0.toNat:Int)%(128:Int));have a9:=wI64' ((↑a0.toNat:Int)%(128:Int)*(268435456:Int));have aa:=wI64' (v+(↑a0.toNat:Int)%(128:Int)*(268435456:Int));have ab:=wI64' ((4:Int)+(1:Int)); .q (Res.mk (AV.tuple [.int .i64 (IntKind.i64.wrap (v+IntKind.i64.wrap (IntKind.i64.wrap ((↑a0.toNat:Int).tmod 128)*268435456))),.int .i64 (IntKind.i64.wrap (4+1)),.bool true]) [] []) ⟨(v+(↑a0.toNat:Int)%(128:Int)*(268435456:Int),(4:Nat)+(1:Nat),Bool.true),(by(clear again;simp_all)),⟨(by dsimp only;omega),⟨(by dsimp only;omega),⟨(by dsimp only;(clear again;trivial)),(by dsimp only;(clear again;trivial))⟩⟩⟩⟩))))))))))
    (fun a4=>have ac:(↑a0.toNat:Int).tmod (128:Int)=(↑a0.toNat:Int)%(128:Int):=Int.tmod_eq_emod_of_nonneg (by omega);have ae:=wI64' ((↑a0.toNat:Int)%(128:Int));have af:=wI64' ((↑a0.toNat:Int)%(128:Int)*(268435456:Int));have ag:=wI64' (v+(↑a0.toNat:Int)%(128:Int)*(268435456:Int));have ah:=wI64' ((268435456:Int)*(128:Int));have ai:=wI64' ((4:Int)+(1:Int)); .A (St.mk [(0,.tree (List.map encB b)),(5,.int .i64 (IntKind.i64.wrap (v+IntKind.i64.wrap (IntKind.i64.wrap ((↑a0.toNat:Int).tmod 128)*268435456)))),(6,.int .i64 (IntKind.i64.wrap (268435456*128))),(7,.int .i64 (IntKind.i64.wrap (4+1)))] []) (by(clear again;simp_all)) (again (((4:Nat)+(1:Nat),v+(↑a0.toNat:Int)%(128:Int)*(268435456:Int),(268435456:Int)*(128:Int))) ⟨(by dsimp only;omega),(by dsimp only;omega)⟩ (by dsimp only;omega))))))))))))
    (fun a1=> .eF (4<(↑(List.map encB b).length:Int)) (by simp only[List.length_map,ciLt]) a1 (.eF (4<(↑(List.map encB b).length:Int)) (by simp only[List.length_map,ciLt]) a1 (.F
    (.r (0,0,false) ⟨(by dsimp only;(clear again;trivial)),⟨(by dsimp only;(clear again;trivial)),⟨(by dsimp only;omega),(by dsimp only;(clear again;trivial))⟩⟩⟩)))))
  ·refine(.k (5<(↑(List.map encB b).length:Int)) (5<b.length) (by simp only[List.length_map,ciLt])
    (fun a1=> .et (5<(↑(List.map encB b).length:Int)) (by simp only[List.length_map,ciLt]) a1 (.et (5<(↑(List.map encB b).length:Int)) (by simp only[List.length_map,ciLt]) a1 (.F
    (.r (0,0,false) ⟨(by dsimp only;(clear again;trivial)),⟨(by dsimp only;(clear again;trivial)),⟨(by dsimp only;omega),(by dsimp only;(clear again;trivial))⟩⟩⟩))))
    (fun a1=> .eF (5<(↑(List.map encB b).length:Int)) (by simp only[List.length_map,ciLt]) a1 (.eF (5<(↑(List.map encB b).length:Int)) (by simp only[List.length_map,ciLt]) a1 (.F
    (.r (0,0,false) ⟨(by dsimp only;(clear again;trivial)),⟨(by dsimp only;(clear again;trivial)),⟨(by dsimp only;omega),(by dsimp only;(clear again;trivial))⟩⟩⟩)))))
theorem c245 (b:List UInt8) (hb:b.length≤100000):∃p:List UInt8×Nat×Bool,X.call 245 [.tree (b.map encB)] [] ⟨.tuple [.str p.1,.int .i64 p.2.1,.bool p.2.2],[],[]⟩∧p.1.length≤b.length∧p.2.1≤b.length∧(p.2.2=true→0<p.2.1):=by
 refine spec_ex ok Go.Proofs.Tryz.func245 ok245 ?_
 refine(Exists.elim (@Tryz.c244 (b) ‹_›) (fun _y3 ⟨a2,a7,a8,a9,a3⟩=> .c a2 (.m _y3.snd.snd (fun _h9=> .y _h9 (.y _h9 (.y _h9 (.y _h9 (.y _h9 (.y _h9 (.T
  (.r ([],0,false) ⟨(by show(0:Nat)≤b.length;omega),⟨(by dsimp only;omega),(by dsimp only;trivial)⟩⟩)))))))) (fun _h9=>have aa:=(a3 _h9); .x _h9 (.x _h9 (.x _h9 (.x _h9 (.x _h9
  (.x _h9
  (have a1:=wI64' ((↑b.length:Int)-(↑_y3.snd.fst:Int)); .k (IntKind.i64.wrap ((↑(List.map encB b).length:Int)-(↑_y3.snd.fst:Int))<_y3.fst) ((↑b.length:Int)-(↑_y3.snd.fst:Int)<_y3.fst) (by simp only[List.length_map,a1])
  (fun a4=> .r ([],0,false) ⟨(by show(0:Nat)≤b.length;omega),⟨(by dsimp only;omega),(by dsimp only;trivial)⟩⟩) (fun a4=> .z encB b 1 (fun _=>rfl)
  (have a0:=wI64' ((↑_y3.snd.fst:Int)+_y3.fst); .k (0≤IntKind.i64.wrap ((↑_y3.snd.fst:Int)+_y3.fst)∧IntKind.i64.wrap ((↑_y3.snd.fst:Int)+_y3.fst)≤(↑(List.map encB b).length:Int)) (0≤(↑_y3.snd.fst:Int)+_y3.fst∧(↑_y3.snd.fst:Int)+_y3.fst≤(↑b.length:Int)) (by simp only[List.length_map,a0])
  (fun a5=> .k (0≤(↑_y3.snd.fst:Int)∧(↑_y3.snd.fst:Int)≤(↑(IntKind.i64.wrap ((↑_y3.snd.fst:Int)+_y3.fst)).toNat:Int)) (0≤_y3.snd.fst∧_y3.snd.fst≤((↑_y3.snd.fst:Int)+_y3.fst).toNat) (by simp only[Int.ofNat_le,ciLe,a0])
  (fun a6=>SatE.pEszM (encB) (List.drop (↑_y3.snd.fst:Int).toNat (List.take ((↑_y3.snd.fst:Int)+_y3.fst).toNat b)) (List.drop (↑_y3.snd.fst:Int).toNat (List.take (IntKind.i64.wrap ((↑_y3.snd.fst:Int)+_y3.fst)).toNat (List.map encB b))) (1) (by kernel_rfl) (by simp[a0])
  (fun _=>rfl)
  (.B (List.drop (↑_y3.snd.fst:Int).toNat (List.take (IntKind.i64.wrap ((↑_y3.snd.fst:Int)+_y3.fst)).toNat (List.map encB b))) (List.drop (↑_y3.snd.fst:Int).toNat (List.take ((↑_y3.snd.fst:Int)+_y3.fst).toNat b)) (by simp[encB_fun,a0])
  (.q (Res.mk (AV.tuple [.str (List.drop (↑_y3.snd.fst:Int).toNat (List.take ((↑_y3.snd.fst:Int)+_y3.fst).toNat b)),.int .i64 (IntKind.i64.wrap ((↑_y3.snd.fst:Int)+_y3.fst)),.bool true]) [] []) ⟨(List.drop (↑_y3.snd.fst:Int).toNat (List.take ((↑_y3.snd.fst:Int)+_y3.fst).toNat b),((↑_y3.snd.fst:Int)+_y3.fst).toNat,Bool.true),(by(simp[a0,a1];omega)),⟨(by dsimp only;(simp;omega)),⟨(by dsimp only;omega),(by dsimp only;omega)⟩⟩⟩)))
  (fun a6=>False.elim (by omega))) (fun a5=>False.elim (by omega))))))))))))))
theorem c216 (B:List UInt8) (bad:Bool) (hb:B.length≤100000):∃p:Int×List UInt8×Bool,X.call 216 [.ref (.inc 0) 0 0] [.box (encBr ⟨B,bad⟩) true] ⟨.int .i64 p.1,[.box (encBr ⟨p.2.1,p.2.2⟩) true],[]⟩∧0≤p.1∧p.1≤1000000000000∧p.2.1.length≤B.length∧(p.2.2=false→p.2.1.length<B.length):=by
 cases bad
 ·refine spec_ex ok Go.Proofs.Tryz.func216 ok216 ?_
  refine(Exists.elim (@Tryz.c244 (B) ‹_›) (fun _y4 ⟨a1,a3,a4,a5,a2⟩=> .c a1 (.m _y4.snd.snd (fun a0=> .T
   (.r (0,B,true) ⟨(by dsimp only;trivial),⟨(by dsimp only;trivial),⟨(by dsimp only;omega),(by dsimp only;simp)⟩⟩⟩)) (fun a0=>have a6:=(a2 a0); .F (.z encB B 1 (fun _=>rfl)
   (.k (0≤(↑_y4.snd.fst:Int)∧(↑_y4.snd.fst:Int)≤(↑(List.map encB B).length:Int)) (0≤_y4.snd.fst∧_y4.snd.fst≤B.length) (by simp only[List.length_map,Int.ofNat_le,ciLe])
   (fun a7=> .q (Res.mk (.int .i64 _y4.fst) [.box
   (.agg [.tree (List.drop (↑_y4.snd.fst:Int).toNat (List.map encB B)),.bool false]) true] []) ⟨(_y4.fst,List.drop (↑_y4.snd.fst:Int).toNat B,Bool.false),(by simp[encBr]),⟨(by dsimp only;trivial),⟨(by dsimp only;trivial),⟨(by dsimp only;simp),(by dsimp only;(simp;omega))⟩⟩⟩⟩)
   (fun a7=>False.elim (by omega))))))))
 ·refine spec_ex ok Go.Proofs.Tryz.func216 ok216 ?_
  refine(Exists.elim (@Tryz.c244 (B) ‹_›) (fun _y4 ⟨a1,a3,a4,a5,a2⟩=> .c a1 (.m _y4.snd.snd (fun a0=> .T
   (.r (0,B,true) ⟨(by dsimp only;trivial),⟨(by dsimp only;trivial),⟨(by dsimp only;omega),(by dsimp only;simp)⟩⟩⟩)) (fun a0=>have a6:=(a2 a0); .T
   (.r (0,B,true) ⟨(by dsimp only;trivial),⟨(by dsimp only;trivial),⟨(by dsimp only;omega),(by dsimp only;simp)⟩⟩⟩)))))
theorem c217 (B:List UInt8) (bad:Bool) (hb:B.length≤100000):∃p:List UInt8×List UInt8×Bool,X.call 217 [.ref (.inc 0) 0 0] [.box (encBr ⟨B,bad⟩) true] ⟨.str p.1,[.box (encBr ⟨p.2.1,p.2.2⟩) true],[]⟩∧p.1.length≤B.length∧p.2.1.length≤B.length∧(p.2.2=false→p.2.1.length<B.length):=by
 cases bad
 ·refine spec_ex ok Go.Proofs.Tryz.func217 ok217 ?_
  refine(Exists.elim (@Tryz.c245 (B) ‹_›) (fun _y4 ⟨a0,a2,a3,a1⟩=> .c a0 (.m _y4.snd.snd (fun _h9=> .T
   (.r ([],B,true) ⟨(by show(0:Nat)≤B.length;omega),⟨(by dsimp only;omega),(by dsimp only;simp)⟩⟩)) (fun _h9=>have a4:=(a1 _h9); .F (.z encB B 1 (fun _=>rfl)
   (.k (0≤(↑_y4.snd.fst:Int)∧(↑_y4.snd.fst:Int)≤(↑(List.map encB B).length:Int)) (0≤_y4.snd.fst∧_y4.snd.fst≤B.length) (by simp only[List.length_map,Int.ofNat_le,ciLe])
   (fun a5=> .q (Res.mk (.str _y4.fst) [.box
   (.agg [.tree (List.drop (↑_y4.snd.fst:Int).toNat (List.map encB B)),.bool false]) true] []) ⟨(_y4.fst,List.drop (↑_y4.snd.fst:Int).toNat B,Bool.false),(by simp[encBr]),⟨(by dsimp only;trivial),⟨(by dsimp only;simp),(by dsimp only;(simp;omega))⟩⟩⟩)
   (fun a5=>False.elim (by omega))))))))
 ·refine spec_ex ok Go.Proofs.Tryz.func217 ok217 ?_
  refine(Exists.elim (@Tryz.c245 (B) ‹_›) (fun _y4 ⟨a0,a2,a3,a1⟩=> .c a0 (.m _y4.snd.snd (fun _h9=> .T
   (.r ([],B,true) ⟨(by show(0:Nat)≤B.length;omega),⟨(by dsimp only;omega),(by dsimp only;simp)⟩⟩)) (fun _h9=>have a4:=(a1 _h9); .T
   (.r ([],B,true) ⟨(by show(0:Nat)≤B.length;omega),⟨(by dsimp only;omega),(by dsimp only;simp)⟩⟩)))))
theorem putText_call (b s:List UInt8) (hb:b.length≤90000) (hs:s.length≤90000):X.call 213 [.tree (b.map encB),.str s] [] ⟨.sref (.out 0) 0 (b++textB s).length,[],[.row 1 ((b++textB s).map encB) true true]⟩:=by
 have hn:=numB_len s.length (by omega)
 unfold textB
 refine spec_of ok Go.Proofs.Tryz.func213 ok213 ?_
 refine
  (have a0:=((@Tryz.c212 (b) ((↑s.length:Int)) (by omega) (by omega) (by omega))).2;have a1:b.length+(numB s.length).length≤b.length+(5:Nat):=Iff.mp (by simp only[List.length_append,Int.toNat_natCast]) a0; .c ((@Tryz.c212 (b) ((↑s.length:Int)) (by omega) (by omega) (by omega))).1
  (.k (((b++numB (↑s.length:Int).toNat).length+(List.map (fun(c:UInt8)=>AV.int IntKind.u8 (↑c.toNat:Int)) s).length)*(1:Nat)≤140737488355328) ((b.length+(numB s.length).length+s.length)*(1:Nat)≤140737488355328) (by simp only[List.length_map,List.length_append,Int.toNat_natCast])
  (fun _h8=> .k ((b++numB (↑s.length:Int).toNat).length=(List.map encB (b++numB (↑s.length:Int).toNat)).length) (True) (by simp only[List.length_map]) (fun _h9=> .q (Res.mk (.sref
  (.out 0) 0 ((b++numB (↑s.length:Int).toNat).length+(List.map (fun(c:UInt8)=>AV.int .u8 (↑c.toNat:Int)) s).length)) [] [.row 1 (List.map encB (b++numB (↑s.length:Int).toNat)++List.map (fun(c:UInt8)=>AV.int .u8 (↑c.toNat:Int)) s) true true]) (by(simp[encB_fun,Nat.add_assoc];done)))
  (fun _h9=>(_h9 trivial).elim)) (fun _h8=>False.elim (by omega))))
theorem c213 (b s:List UInt8) (hb:b.length≤90000) (hs:s.length≤90000):X.call 213 [.tree (b.map encB),.str s] [] ⟨.sref (.out 0) 0 (b++textB s).length,[],[.row 1 ((b++textB s).map encB) true true]⟩∧(b++textB s).length≤b.length+5+s.length:=
 ⟨putText_call b s hb hs,by have:=numB_len s.length (by omega);simp only[textB,List.length_append];omega⟩
end Go.Ab.Tryz
