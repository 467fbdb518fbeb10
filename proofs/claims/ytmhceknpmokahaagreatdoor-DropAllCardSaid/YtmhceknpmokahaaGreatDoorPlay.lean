/- Package cardamomplay: what is picked, as plain Lean. -/
import Derived.Test.YtmhceknpmokahaaGreatDoorPicks
import Derived.Test.YtmhceknpmokahaaGreatDoorG3
import Derived.Test.YtmhceknpmokahaaGreatDoorAbEdge
namespace Go.Ab.Tryz
open Go
set_option maxRecDepth 100000
set_option maxHeartbeats 4000000
theorem c111 (p:Picks) (hp:p.l.length≤100000):X.call 111 [.ref (.inc 0) 0 0] [.box (encPicks p) true] ⟨.bool (decide (p.l.length≤p.n)),[.box (encPicks p) true],[]⟩:=by
 refine spec_of ok Go.Proofs.Tryz.func111 ok111 ?_
 refine(.q (Res.mk (.bool (decide ((↑(List.map encB p.l).length:Int)≤(↑p.n:Int)))) [.box (encPicks p) true] []) (by(simp[encPicks,Int.ofNat_le];done)))
theorem c89 (p:Picks) (hp:p.l.length≤100000):X.call 89 [.ref (.inc 0) 0 0] [.box (encPicks p) true] ⟨.str p.want.1,[.box (encPicks p.want.2) true],[]⟩:=by
 refine spec_of ok Go.Proofs.Tryz.func89 ok89 ?_
 refine
  (have a0:=((@Tryz.c63 (p) ((10:Int)) ‹_› (by omega) (by omega))).2.1;have a1:=((@Tryz.c63 (p) ((10:Int)) ‹_› (by omega) (by omega))).2.2.1;have a2:=((@Tryz.c63 (p) ((10:Int)) ‹_› (by omega) (by omega))).2.2.2; .c ((@Tryz.c63 (p) ((10:Int)) ‹_› (by omega) (by omega))).1
  (.i (0≤(p.num 10).fst∧(p.num 10).fst<10)
  (fun _h6=> .em AV.str ([[(42:UInt8)],[(94:UInt8),(97:UInt8)],[(94:UInt8),(98:UInt8)],[(64:UInt8),(49:UInt8),(61:UInt8),(53:UInt8)],[(33:UInt8),(94:UInt8),(97:UInt8)],[(64:UInt8),(48:UInt8),(58:UInt8),(48:UInt8),(45:UInt8),(57:UInt8)],[(33:UInt8),(42:UInt8)],[(64:UInt8),(49:UInt8),(61:UInt8),(53:UInt8),(38:UInt8),(94:UInt8),(97:UInt8)],[(64:UInt8),(49:UInt8),(61:UInt8),(53:UInt8),(124:UInt8),(94:UInt8),(98:UInt8)],[(33:UInt8),(64:UInt8),(49:UInt8),(61:UInt8),(53:UInt8)]]) ((p.num 10).fst.toNat) (by(simp;omega))
  (fun _x7 a3=> .q (Res.mk (.str _x7) [.box (.agg [.tree (List.map encB (p.num 10).snd.l),.int .i64 (↑(p.num 10).snd.n:Int)]) true] []) (by(simp_all[Picks.want,wants,encPicks];done))))
  (fun _h6=>False.elim (by omega))))
theorem edge_eq {x e:Edge} (h:x.A=e.A∧x.B=e.B):x=e:=by cases x;cases e;simp only at h;rw[h.1,h.2]
theorem c175 (l:List Edge) (e:Edge) (hl:l.length≤1000) (hp:l.Pairwise edLt):X.call 175 [.tree (l.map encEdge),encEdge e] [] ⟨.tree ((joinE l e).map encEdge),[],[]⟩:=by
 refine spec_of ok Go.Proofs.Tryz.func175 ok175 ?_
 refine ?_
 refine Sat.pLoop 4 (St.mk [(0,.tree (List.map encEdge l)),(3,.ref (.head 3 0) 0 0),(5,.sref (.head 5 0) 0 0),(6,.bool false),(7,.int .i64 0)] [(.head 3 0,.box (encEdge e) true),
  (.head 5 0,.row 2 [] true true)]) (by kernel_rfl) (fun(p:Nat×Bool×List Edge)=>⟨[(0,.tree (l.map encEdge)),(3,.ref (.head 3 0) 0 0),(5,.sref
  (.head 5 0) 0 p.2.2.length),(6,.bool p.2.1),(7,.int .i64 p.1)],[(.head 3 0,.box (encEdge e) true),
  (.head 5 0,.row 2 (p.2.2.map encEdge) true true)]⟩) (fun p=>p.1≤l.length∧p.2.2.length≤p.1+p.2.1.toNat∧Joining l e p.1 p.2.1 p.2.2) (fun p=>l.length-p.1) (0,false,[]) rfl ?_ ?_
 ·exact⟨by simp,by simp,Joining.start l e⟩
 ·rintro⟨k,put,acc⟩ hI again
  obtain⟨hk,ha,hJ⟩:=hI
  cases put<;>simp only[Bool.toNat_false,Bool.toNat_true]at hk ha hJ
  ·by_cases hkl:k<l.length
   ·obtain⟨x,hx⟩:∃x,l[k]? =some x:=⟨l[k],by simp⟩
    by_cases he:x.A=e.A∧x.B=e.B
    ·have hsame:=hJ.same (by rw[hx,edge_eq he])
     have he1:=he.1
     have he2:=he.2
     rw[←hsame]
     clear hJ hsame
     refine(.el encEdge hkl (.T (.eh encEdge hx
      (Sat.pNodeE (decide (x.A=e.A)&&(decide (x.B=e.B)&&Bool.true)) (x.A=e.A∧x.B=e.B∧True) (by kernel_rfl) (by simp only[Bool.and_eq_true,decide_eq_true_eq]) (fun a3=> .r)
      (fun a3=>False.elim (by(clear again;(exact absurd (show x.A=e.A∧x.B=e.B∧True from⟨he1,he2,trivial⟩) ‹_›))))))))
    ·have hne:x≠e:=fun h=>he (by rw[h];exact⟨rfl,rfl⟩)
     by_cases hlt:edLt e x
     ·have hput:=hJ.put hp hx hne hlt
      unfold edLt at hlt
      clear hJ
      refine(.el encEdge hkl (.T (.eh encEdge hx
       (Sat.pNodeE (decide (x.A=e.A)&&(decide (x.B=e.B)&&Bool.true)) (x.A=e.A∧x.B=e.B∧True) (by kernel_rfl) (by simp only[Bool.and_eq_true,decide_eq_true_eq])
       (fun a3=>False.elim (by omega)) (fun a3=> .T (.T (.T (.T (.eh encEdge hx (.T (Sat.pFin ((0:Int)) 2 (0) (by kernel_rfl) rfl (by decide) (.T (.T
       (Sat.pFin ((0:Int)) 2 (0) (by kernel_rfl) rfl (by decide) (.T (.T (.T (.i (e.A<x.A) (fun a0=> .it a0 (.it a0 (.it a0 (.it a0 (.it a0 (.it a0 (.it a0 (.it a0 (.it a0 (.T
       (.it a0 (.T (.T (.i ((acc.length+1)*(16:Nat)≤140737488355328) (fun a1=> .k (acc.length=(List.map encEdge acc).length) (True) (by simp only[List.length_map]) (fun a4=> .T
       (.eh encEdge hx (.i ((acc.length+1+1)*(16:Nat)≤140737488355328)
       (fun a6=> .et (acc.length+1=(List.map encEdge acc++[encEdge e]).length) (by simp only[List.length_map,List.length_append,List.length_cons,List.length_nil]) a4
       (have ab:=wI64' ((↑k:Int)+(1:Int)); .A (St.mk [(0,.tree (List.map encEdge l)),(3,.ref (.head 3 0) 0 0),(5,.sref
       (.head 5 0) 0 (acc.length+1+1)),(6,.bool true),(7,.int .i64 (IntKind.i64.wrap ((↑k:Int)+1)))] [(.head 3 0,.box (encEdge e) true),
       (.head 5 0,.row 2 (List.map encEdge acc++[encEdge e]++[encEdge x]) true true)]) (by simp[encEdge,ab]) (again ((k+(1:Nat),Bool.true,acc++[e]++[x])) ⟨(by dsimp only;omega),⟨(by dsimp only;(clear again;(simp;omega))),(by dsimp only;omega)⟩⟩ (by dsimp only;omega))))
       (fun a6=>False.elim (by omega))))) (fun a4=>(a4 trivial).elim)) (fun a1=>False.elim (by omega)))))))))))))))) (fun a0=> .iF a0 (.iF a0 (.T (.eh encEdge hx (.iF a0
       (Sat.pFin ((0:Int)) 2 (0) (by kernel_rfl) rfl (by decide) (.iF a0 (.iF a0 (Sat.pFin ((0:Int)) 2 (0) (by kernel_rfl) rfl (by decide) (.iF a0 (.iF a0 (.iF a0 (.i (x.A=e.A)
       (fun a2=> .it a2 (.it a2 (.T (.eh encEdge hx (.it a2 (Sat.pFin ((1:Int)) 2 (1) (by kernel_rfl) rfl (by decide) (.it a2 (.it a2 (Sat.pFin ((1:Int)) 2 (1) (by kernel_rfl) rfl (by decide)
       (.it a2 (.it a2 (.iF a0 (.it a2 (.T (.iF a0 (.T (.i (e.B<x.B) (fun a7=> .i ((acc.length+1)*(16:Nat)≤140737488355328)
       (fun a5=> .k (acc.length=(List.map encEdge acc).length) (True) (by simp only[List.length_map]) (fun a8=> .T (.eh encEdge hx (.i ((acc.length+1+1)*(16:Nat)≤140737488355328)
       (fun ac=> .et (acc.length+1=(List.map encEdge acc++[encEdge e]).length) (by simp only[List.length_map,List.length_append,List.length_cons,List.length_nil]) a8
       (have ad:=wI64' ((↑k:Int)+(1:Int)); .A (St.mk [(0,.tree (List.map encEdge l)),(3,.ref (.head 3 0) 0 0),(5,.sref
       (.head 5 0) 0 (acc.length+1+1)),(6,.bool true),(7,.int .i64 (IntKind.i64.wrap ((↑k:Int)+1)))] [(.head 3 0,.box (encEdge e) true),
       (.head 5 0,.row 2 (List.map encEdge acc++[encEdge e]++[encEdge x]) true true)]) (by simp[encEdge,ad]) (again ((k+(1:Nat),Bool.true,acc++[e]++[x])) ⟨(by dsimp only;omega),⟨(by dsimp only;(clear again;(simp;omega))),(by dsimp only;omega)⟩⟩ (by dsimp only;omega))))
       (fun ac=>False.elim (by omega))))) (fun a8=>(a8 trivial).elim)) (fun a5=>False.elim (by omega))) (fun a7=>False.elim (by omega)))))))))))))))))))
       (fun a2=>False.elim (by omega)))))))))))))))))))))))))))))))))
     ·have hnext:=hJ.next hx hne hlt
      unfold edLt at hlt
      clear hJ
      refine(.el encEdge hkl (.T (.eh encEdge hx
       (Sat.pNodeE (decide (x.A=e.A)&&(decide (x.B=e.B)&&Bool.true)) (x.A=e.A∧x.B=e.B∧True) (by kernel_rfl) (by simp only[Bool.and_eq_true,decide_eq_true_eq])
       (fun a3=>False.elim (by omega)) (fun a3=> .T (.T (.T (.T (.eh encEdge hx (.T (Sat.pFin ((0:Int)) 2 (0) (by kernel_rfl) rfl (by decide) (.T (.T
       (Sat.pFin ((0:Int)) 2 (0) (by kernel_rfl) rfl (by decide) (.T (.T (.T (.i (e.A<x.A) (fun a0=>False.elim (by omega)) (fun a0=> .iF a0 (.iF a0 (.T (.eh encEdge hx (.iF a0
       (Sat.pFin ((0:Int)) 2 (0) (by kernel_rfl) rfl (by decide) (.iF a0 (.iF a0 (Sat.pFin ((0:Int)) 2 (0) (by kernel_rfl) rfl (by decide) (.iF a0 (.iF a0 (.iF a0 (.i (x.A=e.A)
       (fun a1=> .it a1 (.it a1 (.T (.eh encEdge hx (.it a1 (Sat.pFin ((1:Int)) 2 (1) (by kernel_rfl) rfl (by decide) (.it a1 (.it a1 (Sat.pFin ((1:Int)) 2 (1) (by kernel_rfl) rfl (by decide)
       (.it a1 (.it a1 (.iF a0 (.it a1 (.T (.iF a0 (.T (.i (e.B<x.B) (fun a4=>False.elim (by omega)) (fun a4=> .T (.eh encEdge hx (.i ((acc.length+1)*(16:Nat)≤140737488355328)
       (fun a6=> .k (acc.length=(List.map encEdge acc).length) (True) (by simp only[List.length_map])
       (fun a9=>have ae:=wI64' ((↑k:Int)+(1:Int)); .A (St.mk [(0,.tree (List.map encEdge l)),(3,.ref (.head 3 0) 0 0),(5,.sref
       (.head 5 0) 0 (acc.length+1)),(6,.bool false),(7,.int .i64 (IntKind.i64.wrap ((↑k:Int)+1)))] [(.head 3 0,.box (encEdge e) true),
       (.head 5 0,.row 2 (List.map encEdge acc++[encEdge x]) true true)]) (by simp[encEdge,ae]) (again ((k+(1:Nat),Bool.false,acc++[x])) ⟨(by dsimp only;omega),⟨(by dsimp only;(clear again;(simp;omega))),(by dsimp only;omega)⟩⟩ (by dsimp only;omega)))
       (fun a9=>(a9 trivial).elim)) (fun a6=>False.elim (by omega)))))))))))))))))))))) (fun a1=> .iF a1 (.iF a1 (.iF a1 (.iF a1 (.iF a1 (.iF a1 (.iF a1 (.iF a0 (.iF a1 (.T
       (.iF a0 (.T (.F (.T (.eh encEdge hx (.i ((acc.length+1)*(16:Nat)≤140737488355328) (fun a7=> .k (acc.length=(List.map encEdge acc).length) (True) (by simp only[List.length_map])
       (fun a5=>have af:=wI64' ((↑k:Int)+(1:Int)); .A (St.mk [(0,.tree (List.map encEdge l)),(3,.ref (.head 3 0) 0 0),(5,.sref
       (.head 5 0) 0 (acc.length+1)),(6,.bool false),(7,.int .i64 (IntKind.i64.wrap ((↑k:Int)+1)))] [(.head 3 0,.box (encEdge e) true),
       (.head 5 0,.row 2 (List.map encEdge acc++[encEdge x]) true true)]) (by simp[encEdge,af]) (again ((k+(1:Nat),Bool.false,acc++[x])) ⟨(by dsimp only;omega),⟨(by dsimp only;(clear again;(simp;omega))),(by dsimp only;omega)⟩⟩ (by dsimp only;omega)))
       (fun a5=>(a5 trivial).elim)) (fun a7=>False.elim (by omega)))))))))))))))))))))))))))))))))))))))))))))))))
   ·have hlast:=hJ.last (by omega)
    clear hJ
    refine(.en encEdge hkl (.T (.i ((acc.length+1)*(16:Nat)≤140737488355328) (fun ag=> .k (acc.length=(List.map encEdge acc).length) (True) (by simp only[List.length_map])
     (fun aa=>have ak:List.take (acc.length+(1:Nat)) (List.map encEdge acc++[encEdge e])=List.map encEdge acc++[encEdge e]:=List.take_of_length_le (by simp); .q (Res.mk
     (.tree (List.take (acc.length+1) (List.map encEdge acc++[encEdge e]))) [] []) (by(clear again;(rw[←hlast];simp[List.map_append,List.take_of_length_le];done))))
     (fun aa=>(aa trivial).elim)) (fun ag=>False.elim (by omega)))))
  ·by_cases hkl:k<l.length
   ·obtain⟨x,hx⟩:∃x,l[k]? =some x:=⟨l[k],by simp⟩
    have hne:¬(x.A=e.A∧x.B=e.B):=fun h=>hJ.on_ne hx (edge_eq h)
    have hon:=hJ.on hx
    clear hJ
    refine(.el encEdge hkl (.T (.eh encEdge hx
     (Sat.pNodeE (decide (x.A=e.A)&&(decide (x.B=e.B)&&Bool.true)) (x.A=e.A∧x.B=e.B∧True) (by kernel_rfl) (by simp only[Bool.and_eq_true,decide_eq_true_eq])
     (fun ah=>False.elim (by omega)) (fun ah=> .F (.F (.F (.F (.F (.F (.F (.F (.F (.F (.F (.F (.T (.eh encEdge hx (.i ((acc.length+1)*(16:Nat)≤140737488355328)
     (fun ai=> .k (acc.length=(List.map encEdge acc).length) (True) (by simp only[List.length_map])
     (fun a3=>have aj:=wI64' ((↑k:Int)+(1:Int)); .A (St.mk [(0,.tree (List.map encEdge l)),(3,.ref (.head 3 0) 0 0),(5,.sref
     (.head 5 0) 0 (acc.length+1)),(6,.bool true),(7,.int .i64 (IntKind.i64.wrap ((↑k:Int)+1)))] [(.head 3 0,.box (encEdge e) true),
     (.head 5 0,.row 2 (List.map encEdge acc++[encEdge x]) true true)]) (by simp[encEdge,aj]) (again ((k+(1:Nat),Bool.true,acc++[x])) ⟨(by dsimp only;omega),⟨(by dsimp only;(clear again;(simp;omega))),(by dsimp only;omega)⟩⟩ (by dsimp only;omega)))
     (fun a3=>(a3 trivial).elim)) (fun ai=>False.elim (by omega)))))))))))))))))))))
   ·have hdone:=hJ.done (by omega)
    rw[←hdone]
    clear hJ hdone
    refine(.en encEdge hkl (.F (have al:List.take acc.length (List.map encEdge acc)=List.map encEdge acc:=List.take_of_length_le (by simp); .q (Res.mk
     (.tree (List.take acc.length (List.map encEdge acc))) [] []) (by(clear again;simp_all)))))
end Go.Ab.Tryz
