/- Package cardamomref25: Last. -/
import Derived.Test.YtmhceknpmokahaaGreatDoorRef1f
import Derived.Test.YtmhceknpmokahaaGreatDoorAbEdge
namespace Go.Ab.Tryz
open Go
set_option maxRecDepth 100000
set_option maxHeartbeats 4000000
theorem c64 (m:Mesh) (hl:m.Issued.length≤900):X.call 64 [encMesh m] [] ⟨.tree ((lastM m.Issued).map encVersion),[],[]⟩:=by
 refine spec_of ok Go.Proofs.Tryz.func64 ok64 ?_
 refine ?_
 refine Sat.pLoop 3 (St.mk [(1,.ref (.head 1 0) 0 0),(3,.tree []),(4,.int .i64 0)] [(.head 1 0,.box (encMesh m) true)]) (by kernel_rfl) (fun(p:Nat×List Version)=>⟨[(1,.ref
  (.head 1 0) 0 0),(3,.tree (p.2.map encVersion)),(4,.int .i64 p.1)],[(.head 1 0,.box (encMesh m) true)]⟩) (fun p=>p.1≤m.Issued.length∧p.2.length≤p.1∧p.2=lastM (m.Issued.take p.1)) (fun p=>m.Issued.length-p.1) (0,[]) rfl ?_ ?_
 ·exact⟨by simp,by simp,rfl⟩
 ·rintro⟨k,hs⟩ hI again
  obtain⟨k1,k2,k3⟩:=hI
  simp only at k1 k2 k3
  refine(.kl encVersion m.Issued k (fun a1=> .T (.em encVersion m.Issued k ‹_› (fun a0 a3=> .c (@Tryz.c114 (hs) (a0) (by omega))
   (have a2:=wI64' ((↑k:Int)+(1:Int)); .A (St.mk [(1,.ref
   (.head 1 0) 0 0),(3,.tree (List.map encVersion (putV hs a0))),(4,.int .i64 (IntKind.i64.wrap ((↑k:Int)+1)))] [(.head 1 0,.box (encMesh m) true)]) (by simp[encMesh,a2]) (again ((k+(1:Nat),putV hs a0)) ⟨(by dsimp only;omega),⟨(by dsimp only;(clear again;(refine Nat.le_trans (putV_len _ _) ?_;omega))),(by dsimp only;(clear again;(rw[lastM_succ ‹_›,k3])))⟩⟩ (by dsimp only;omega))))))
   (fun a1=> .q (Res.mk (.tree (List.map encVersion hs)) [] []) (by(clear again;(rw[List.take_of_length_le (by omega)]at k3;rw[k3])))))
end Go.Ab.Tryz
