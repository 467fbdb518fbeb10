/- Package cardamomref1: rows by thing, as plain Lean. -/
import Derived.Test.YtmppanboolejjaaGreatRef1
namespace Go.Ab.Tryz
open Go
set_option maxRecDepth 100000
set_option maxHeartbeats 4000000
theorem c33 (l : List Head) (item : Int) (hl : l.length ≤ 100000) : X.call 33 [.tree (l.map encHead),.int .i64 item] [] ⟨encStamp (headAt l item),[],[]⟩ := by
  refine spec_of ok Go.Proofs.Tryz.func33 ok33 ?_
  refine ?_
  refine Sat.pLoop 2 (St.mk [(0,.tree (List.map encHead l)),(1,.int .i64 item),(4,.ref (.head 4 0) 0 0),(5,.int .i64 0)] [(.head 4 0,.box
   (.agg [.int .i64 0,.int .i64 0,.int .i64 0]) true)]) (by kernel_rfl) (fun (k : Nat) => ⟨[(0,.tree (l.map encHead)),(1,.int .i64 item),(4,.ref
   (.head 4 0) 0 0),(5,.int .i64 k)],[(.head 4 0,.box
   (.agg [.int .i64 0,.int .i64 0,.int .i64 0]) true)]⟩) (fun k => k ≤ l.length ∧ l.find? (fun h => decide (h.Item = item)) = (l.drop k).find? (fun h => decide (h.Item = item))) (fun k => l.length - k) 0 rfl ?_ ?_
  · simp
  · intro k hk again
    refine (.kl encHead l k (fun _h7 => .T (.em encHead l k ‹_› (fun _x8 _hx9 => .i (_x8.Item = item) (fun _h10 => .T (.eh encHead _hx9
     (.q (Res.mk (encStamp _x8.S) [] []) (by (clear again; (rw [headAt,hk.2,drop_at ‹_›]; simp_all [encStamp]))))))
     (fun _h10 => have _w11 := wI64' ((↑k : Int) + (1 : Int)); .A (St.mk [(0,.tree (List.map encHead l)),(1,.int .i64 item),(4,.ref
     (.head 4 0) 0 0),(5,.int .i64 (IntKind.i64.wrap ((↑k : Int) + 1)))] [(.head 4 0,.box
     (.agg [.int .i64 0,.int .i64 0,.int .i64 0]) true)]) (by simp [_w11]) (again (k + (1 : Nat)) (by (clear again; (rw [drop_at ‹_›] at hk; simp_all; omega))) (by omega)))))) (fun _h7 => .q (Res.mk
     (.agg [.int .i64 0,.int .i64 0,.int .i64 0]) [] []) (by (clear again; (rw [headAt,hk.2,List.drop_of_length_le (by omega)]; rfl)))))
theorem c30 (l : List Version) (item : Int) (hl : l.length ≤ 100000) : X.call 30 [.tree (l.map encVersion),.int .i64 item] [] ⟨.tuple [encVersion ((findV l item).getD ⟨0,⟨0,0,0⟩,false,[],[],[]⟩),.bool (findV l item).isSome],[],[]⟩ := by
  refine spec_of ok Go.Proofs.Tryz.func30 ok30 ?_
  refine ?_
  refine Sat.pLoop 2 (St.mk [(0,.tree (List.map encVersion l)),(1,.int .i64 item),(4,.ref (.head 4 0) 0 0),(6,.int .i64 0)] [(.head 4 0,.box
   (.agg [.int .i64 0,.int .i64 0,.int .i64 0,.int .i64 0,.bool false,.nils,.str [],.str []]) true)]) (by kernel_rfl) (fun (k : Nat) => ⟨[(0,.tree (l.map encVersion)),(1,.int .i64 item),(4,.ref
   (.head 4 0) 0 0),(6,.int .i64 k)],[(.head 4 0,.box
   (.agg [.int .i64 0,.int .i64 0,.int .i64 0,.int .i64 0,.bool false,.nils,.str [],.str []]) true)]⟩) (fun k => k ≤ l.length ∧ findV l item = findV (l.drop k) item) (fun k => l.length - k) 0 rfl ?_ ?_
  · simp
  · intro k hk again
    refine (.kl encVersion l k (fun _h7 => .T (.em encVersion l k ‹_› (fun _x8 _hx9 => .i (_x8.Item = item) (fun _h10 => .T (.eh encVersion _hx9
     (.q (Res.mk (AV.tuple [encVersion _x8,.bool true]) [] []) (by (clear again; (rw [hk.2,drop_at ‹_›]; simp_all [findV,encVersion]))))))
     (fun _h10 => have _w11 := wI64' ((↑k : Int) + (1 : Int)); .A (St.mk [(0,.tree (List.map encVersion l)),(1,.int .i64 item),(4,.ref
     (.head 4 0) 0 0),(6,.int .i64 (IntKind.i64.wrap ((↑k : Int) + 1)))] [(.head 4 0,.box
     (.agg [.int .i64 0,.int .i64 0,.int .i64 0,.int .i64 0,.bool false,.nils,.str [],.str []]) true)]) (by simp [_w11]) (again (k + (1 : Nat)) (by (clear again; (rw [drop_at ‹_›] at hk; simp_all [findV]; omega))) (by omega))))))
     (fun _h7 => .q (Res.mk (AV.tuple [.agg [.int .i64 0,.int .i64 0,.int .i64 0,.int .i64 0,.bool false,.tree [],.str [],.str []],.bool false]) [] []) (by (clear again; (rw [hk.2,List.drop_of_length_le (by omega)]; rfl)))))
theorem c92 (l : List Version) (hl : l.length ≤ 1000) : X.call 92 [.tree (l.map encVersion)] [] ⟨.tree ((headsOf l).map encHead),[],[]⟩ := by
  refine spec_of ok Go.Proofs.Tryz.func92 ok92 ?_
  refine ?_
  refine Sat.pLoop 3 (St.mk [(0,.tree (List.map encVersion l)),(3,.sref
   (.head 3 0) 0 0),(4,.int .i64 0)] [(.head 3 0,.row 4 [] true true)]) (by kernel_rfl) (fun (p : Nat × List Head) => ⟨[(0,.tree (l.map encVersion)),(3,.sref
   (.head 3 0) 0 p.2.length),(4,.int .i64 p.1)],[(.head 3 0,.row 4 (p.2.map encHead) true true)]⟩) (fun p => p.1 ≤ l.length ∧ p.2 = headsOf (l.take p.1) ∧ p.2.length = p.1) (fun p => l.length - p.1) (0,[]) rfl ?_ ?_
  · exact ⟨by simp,rfl,rfl⟩
  · rintro ⟨k,acc⟩ hI again
    obtain ⟨hk,ha,hal⟩ := hI
    simp only at hk ha hal
    refine (.k ((↑k : Int) < (↑(List.map encVersion l).length : Int)) (k < l.length) (by simp only [List.length_map,Int.ofNat_lt]) (fun _h10 => .T (.em encVersion l k ‹_› (fun _x11 _hx12 => .T
     (.eh encVersion _hx12 (.i ((acc.length + 1) * (32 : Nat) ≤ 140737488355328) (fun _h13 => .k (acc.length = (List.map encHead acc).length) (True) (by simp only [List.length_map])
     (fun _h14 => have _w15 := wI64' ((↑k : Int) + (1 : Int)); .A (St.mk [(0,.tree (List.map encVersion l)),(3,.sref
     (.head 3 0) 0 (acc.length + 1)),(4,.int .i64 (IntKind.i64.wrap ((↑k : Int) + 1)))] [(.head 3 0,.row 4 (List.map encHead acc ++ [.agg [.int .i64 _x11.Item,.int .i64 _x11.S.L,.int .i64 _x11.S.R,.int .i64 _x11.S.N]]) true true)]) (by simp [encHead,_w15]) (again ((k + (1 : Nat),acc ++ [Head.mk _x11.Item _x11.S])) (by (clear again; (dsimp only; (refine ⟨by omega, ?_,by simp; omega⟩; rw [take_succ ‹_›,ha]; simp [headsOf])))) (by (clear again; (dsimp only; omega)))))
     (fun _h14 => (_h14 trivial).elim)) (fun _h13 => False.elim (by omega)))))))
     (fun _h10 => have _w16 : List.take acc.length (List.map encHead acc) = List.map encHead acc := List.take_of_length_le (by simp); .q (Res.mk
     (.tree (List.take acc.length (List.map encHead acc))) [] []) (by (clear again; (rw [List.take_of_length_le (by omega)] at ha; simp_all; done)))))
end Go.Ab.Tryz
