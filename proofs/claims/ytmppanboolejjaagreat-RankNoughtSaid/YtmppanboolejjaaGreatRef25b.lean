/- Package cardamomref25: what is counted, as plain Lean. -/
import Derived.Test.YtmppanboolejjaaGreatRef25a
import Derived.Test.YtmppanboolejjaaGreatRef1f
namespace Go.Ab.Tryz
open Go
set_option maxRecDepth 100000
set_option maxHeartbeats 4000000
theorem c21 (m : Mesh) (hl : m.Issued.length ≤ 900) : X.call 21 [encMesh m] [] ⟨.tree ((headsM m.Issued).map encHead),[],[]⟩ := by
  refine spec_of ok Go.Proofs.Tryz.func21 ok21 ?_
  refine ?_
  refine Sat.pLoop 3 (St.mk [(1,.ref (.head 1 0) 0 0),(3,.tree []),(4,.int .i64 0)] [(.head 1 0,.box (encMesh m) true)]) (by kernel_rfl) (fun (p : Nat × List Head) => ⟨[(1,.ref
   (.head 1 0) 0 0),(3,.tree (p.2.map encHead)),(4,.int .i64 p.1)],[(.head 1 0,.box (encMesh m) true)]⟩) (fun p => p.1 ≤ m.Issued.length ∧ p.2.length ≤ p.1 ∧ p.2 = headsM (m.Issued.take p.1)) (fun p => m.Issued.length - p.1) (0,[]) rfl ?_ ?_
  · exact ⟨by simp,by simp,rfl⟩
  · rintro ⟨k,hs⟩ hI again
    obtain ⟨k1,k2,k3⟩ := hI
    simp only at k1 k2 k3
    refine (.kl encVersion m.Issued k (fun _h10 => .T (.em encVersion m.Issued k ‹_› (fun _x11 _hx12 => .T (.eh encVersion _hx12 (.c (@Tryz.c44 (hs) (Head.mk _x11.Item _x11.S) (by omega))
     (have _w13 := wI64' ((↑k : Int) + (1 : Int)); .A (St.mk [(1,.ref
     (.head 1 0) 0 0),(3,.tree (List.map encHead (putHead hs (Head.mk _x11.Item _x11.S)))),(4,.int .i64 (IntKind.i64.wrap ((↑k : Int) + 1)))] [(.head 1 0,.box (encMesh m) true)]) (by simp [encMesh,_w13]) (again ((k + (1 : Nat),putHead hs (Head.mk _x11.Item _x11.S))) ⟨(by dsimp only; omega),⟨(by dsimp only; (clear again; (refine Nat.le_trans (putHead_len _ _) ?_; omega))),(by dsimp only; (clear again; (rw [headsM_succ ‹_›,k3])))⟩⟩ (by dsimp only; omega))))))))
     (fun _h10 => .q (Res.mk (.tree (List.map encHead hs)) [] []) (by (clear again; (rw [List.take_of_length_le (by omega)] at k3; rw [k3])))))
end Go.Ab.Tryz
