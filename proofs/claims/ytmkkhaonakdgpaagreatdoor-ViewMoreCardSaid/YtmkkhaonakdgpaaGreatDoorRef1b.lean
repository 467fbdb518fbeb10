/- Package cardamomref1: rows by thing, as plain Lean. -/
import Derived.Test.YtmkkhaonakdgpaaGreatDoorRef1
namespace Go.Ab.Tryz
open Go
set_option maxRecDepth 100000
set_option maxHeartbeats 4000000
theorem c126 (l : List Head) (item : Int) (hl : l.length ≤ 100000) : X.call 126 [.tree (l.map encHead), .int .i64 item] [] ⟨encStamp (headAt l item), [], []⟩ := by
  refine spec_of ok Go.Proofs.Tryz.func126 ok126 ?_
  refine ?_
  refine Sat.pLoop 2 (St.mk [((0 : Nat), AV.tree (List.map encHead l)), ((1 : Nat), AV.int IntKind.i64 item), ((4 : Nat), AV.ref (Site.head (4 : Nat) (0 : Nat)) (0 : Nat) (0 : Nat)), ((5 : Nat), AV.int IntKind.i64 (0 : Int))] [(Site.head (4 : Nat) (0 : Nat), Blk.box (AV.agg [AV.int IntKind.i64 (0 : Int), AV.int IntKind.i64 (0 : Int), AV.int IntKind.i64 (0 : Int)]) Bool.true)]) (by kernel_rfl) (fun (k : Nat) => ⟨[(0, .tree (l.map encHead)), (1, .int .i64 item), (4, .ref (.head 4 0) 0 0), (5, .int .i64 k)], [(.head 4 0, .box (.agg [.int .i64 0, .int .i64 0, .int .i64 0]) true)]⟩) (fun k => k ≤ l.length ∧ l.find? (fun h => decide (h.Item = item)) = (l.drop k).find? (fun h => decide (h.Item = item))) (fun k => l.length - k) 0 rfl ?_ ?_
  · simp
  · intro k hk again
    refine (Sat.pIfE ((↑k : Int) < (↑(List.map encHead l).length : Int)) (k < l.length) (by kernel_rfl) (by simp only [List.length_map, Int.ofNat_lt]) (fun _h7 => (Sat.pNodeT true (by kernel_rfl) rfl
     (Sat.pElemM (encHead) (l) (List.map encHead l) (k) (by kernel_rfl) rfl (by assumption) (fun _x8 _hx9 => (Sat.pIf (_x8.Item = item) (by kernel_rfl) (fun _h10 => (Sat.pNodeT true (by kernel_rfl) rfl
     (Sat.pElemH (encHead) (l) (List.map encHead l) (k) (k) (_x8) (by kernel_rfl) rfl rfl _hx9
     (Sat.pRet (Res.mk (AV.agg [AV.int IntKind.i64 _x8.S.L, AV.int IntKind.i64 _x8.S.R, AV.int IntKind.i64 _x8.S.N]) [] []) (by kernel_rfl) (by (clear again; (rw [headAt, hk.2, drop_at (by assumption)]; simp_all [encStamp])))))))
     (fun _h10 => (have _w11 : IntKind.i64.wrap ((↑k : Int) + (1 : Int)) = (↑k : Int) + (1 : Int) := wI64 (by omega) (by omega);
     (Sat.pAgainE (St.mk [((0 : Nat), AV.tree (List.map encHead l)), ((1 : Nat), AV.int IntKind.i64 item), ((4 : Nat), AV.ref (Site.head (4 : Nat) (0 : Nat)) (0 : Nat) (0 : Nat)), ((5 : Nat), AV.int IntKind.i64 (IntKind.i64.wrap ((↑k : Int) + (1 : Int))))] [(Site.head (4 : Nat) (0 : Nat), Blk.box (AV.agg [AV.int IntKind.i64 (0 : Int), AV.int IntKind.i64 (0 : Int), AV.int IntKind.i64 (0 : Int)]) Bool.true)]) (by kernel_rfl) (by simp [_w11]) (again (k + (1 : Nat)) (by (clear again; (rw [drop_at (by assumption)] at hk; simp_all; omega))) (by omega))))))))))
     (fun _h7 =>
     (Sat.pRet (Res.mk (AV.agg [AV.int IntKind.i64 (0 : Int), AV.int IntKind.i64 (0 : Int), AV.int IntKind.i64 (0 : Int)]) [] []) (by kernel_rfl) (by (clear again; (rw [headAt, hk.2, List.drop_of_length_le (by omega)]; rfl))))))
theorem c220 (l : List Version) (item : Int) (hl : l.length ≤ 100000) : X.call 220 [.tree (l.map encVersion), .int .i64 item] [] ⟨.tuple [encVersion ((findV l item).getD ⟨0, ⟨0, 0, 0⟩, false, [], [], []⟩), .bool (findV l item).isSome], [], []⟩ := by
  refine spec_of ok Go.Proofs.Tryz.func220 ok220 ?_
  refine ?_
  refine Sat.pLoop 2 (St.mk [((0 : Nat), AV.tree (List.map encVersion l)), ((1 : Nat), AV.int IntKind.i64 item), ((4 : Nat), AV.ref (Site.head (4 : Nat) (0 : Nat)) (0 : Nat) (0 : Nat)), ((6 : Nat), AV.int IntKind.i64 (0 : Int))] [(Site.head (4 : Nat) (0 : Nat), Blk.box (AV.agg [AV.int IntKind.i64 (0 : Int), AV.int IntKind.i64 (0 : Int), AV.int IntKind.i64 (0 : Int), AV.int IntKind.i64 (0 : Int), AV.bool Bool.false, AV.nils, AV.str [], AV.str []]) Bool.true)]) (by kernel_rfl) (fun (k : Nat) => ⟨[(0, .tree (l.map encVersion)), (1, .int .i64 item), (4, .ref (.head 4 0) 0 0), (6, .int .i64 k)], [(.head 4 0, .box (.agg [.int .i64 0, .int .i64 0, .int .i64 0, .int .i64 0, .bool false, .nils, .str [], .str []]) true)]⟩) (fun k => k ≤ l.length ∧ findV l item = findV (l.drop k) item) (fun k => l.length - k) 0 rfl ?_ ?_
  · simp
  · intro k hk again
    refine (Sat.pIfE ((↑k : Int) < (↑(List.map encVersion l).length : Int)) (k < l.length) (by kernel_rfl) (by simp only [List.length_map, Int.ofNat_lt]) (fun _h7 => (Sat.pNodeT true (by kernel_rfl) rfl
     (Sat.pElemM (encVersion) (l) (List.map encVersion l) (k) (by kernel_rfl) rfl (by assumption) (fun _x8 _hx9 => (Sat.pIf (_x8.Item = item) (by kernel_rfl) (fun _h10 =>
     (Sat.pNodeT true (by kernel_rfl) rfl (Sat.pElemH (encVersion) (l) (List.map encVersion l) (k) (k) (_x8) (by kernel_rfl) rfl rfl _hx9
     (Sat.pRet (Res.mk (AV.tuple [AV.agg [AV.int IntKind.i64 _x8.Item, AV.int IntKind.i64 _x8.S.L, AV.int IntKind.i64 _x8.S.R, AV.int IntKind.i64 _x8.S.N, AV.bool _x8.Dead, AV.tree (List.map encAttr _x8.Attrs), AV.str _x8.Tag, AV.str _x8.Body], AV.bool Bool.true]) [] []) (by kernel_rfl) (by (clear again; (rw [hk.2, drop_at (by assumption)]; simp_all [findV, encVersion])))))))
     (fun _h10 => (have _w11 : IntKind.i64.wrap ((↑k : Int) + (1 : Int)) = (↑k : Int) + (1 : Int) := wI64 (by omega) (by omega);
     (Sat.pAgainE (St.mk [((0 : Nat), AV.tree (List.map encVersion l)), ((1 : Nat), AV.int IntKind.i64 item), ((4 : Nat), AV.ref (Site.head (4 : Nat) (0 : Nat)) (0 : Nat) (0 : Nat)), ((6 : Nat), AV.int IntKind.i64 (IntKind.i64.wrap ((↑k : Int) + (1 : Int))))] [(Site.head (4 : Nat) (0 : Nat), Blk.box (AV.agg [AV.int IntKind.i64 (0 : Int), AV.int IntKind.i64 (0 : Int), AV.int IntKind.i64 (0 : Int), AV.int IntKind.i64 (0 : Int), AV.bool Bool.false, AV.nils, AV.str [], AV.str []]) Bool.true)]) (by kernel_rfl) (by simp [_w11]) (again (k + (1 : Nat)) (by (clear again; (rw [drop_at (by assumption)] at hk; simp_all [findV]; omega))) (by omega))))))))))
     (fun _h7 =>
     (Sat.pRet (Res.mk (AV.tuple [AV.agg [AV.int IntKind.i64 (0 : Int), AV.int IntKind.i64 (0 : Int), AV.int IntKind.i64 (0 : Int), AV.int IntKind.i64 (0 : Int), AV.bool Bool.false, AV.tree [], AV.str [], AV.str []], AV.bool Bool.false]) [] []) (by kernel_rfl) (by (clear again; (rw [hk.2, List.drop_of_length_le (by omega)]; rfl))))))
theorem c182 (l : List Version) (hl : l.length ≤ 1000) : X.call 182 [.tree (l.map encVersion)] [] ⟨.tree ((headsOf l).map encHead), [], []⟩ := by
  refine spec_of ok Go.Proofs.Tryz.func182 ok182 ?_
  refine ?_
  refine Sat.pLoop 3 (St.mk [((0 : Nat), AV.tree (List.map encVersion l)), ((3 : Nat), AV.sref (Site.head (3 : Nat) (0 : Nat)) (0 : Nat) (0 : Nat)), ((4 : Nat), AV.int IntKind.i64 (0 : Int))] [(Site.head (3 : Nat) (0 : Nat), Blk.row (4 : Nat) [] Bool.true Bool.true)]) (by kernel_rfl) (fun (p : Nat × List Head) => ⟨[(0, .tree (l.map encVersion)), (3, .sref (.head 3 0) 0 p.2.length), (4, .int .i64 p.1)], [(.head 3 0, .row 4 (p.2.map encHead) true true)]⟩) (fun p => p.1 ≤ l.length ∧ p.2 = headsOf (l.take p.1) ∧ p.2.length = p.1) (fun p => l.length - p.1) (0, []) rfl ?_ ?_
  · exact ⟨by simp, rfl, rfl⟩
  · rintro ⟨k, acc⟩ hI again
    obtain ⟨hk, ha, hal⟩ := hI
    simp only at hk ha hal
    refine (Sat.pIfE ((↑k : Int) < (↑(List.map encVersion l).length : Int)) (k < l.length) (by kernel_rfl) (by simp only [List.length_map, Int.ofNat_lt]) (fun _h10 => (Sat.pNodeT true (by kernel_rfl) rfl
     (Sat.pElemM (encVersion) (l) (List.map encVersion l) (k) (by kernel_rfl) rfl (by assumption) (fun _x11 _hx12 => (Sat.pNodeT true (by kernel_rfl) rfl
     (Sat.pElemH (encVersion) (l) (List.map encVersion l) (k) (k) (_x11) (by kernel_rfl) rfl rfl _hx12 (Sat.pIf ((acc.length + (1 : Nat)) * (32 : Nat) ≤ (140737488355328 : Nat)) (by kernel_rfl) (fun _h13 =>
     (Sat.pIfE (acc.length = (List.map encHead acc).length) (True) (by kernel_rfl) (by simp only [List.length_map]) (fun _h14 =>
     (have _w15 : IntKind.i64.wrap ((↑k : Int) + (1 : Int)) = (↑k : Int) + (1 : Int) := wI64 (by omega) (by omega);
     (Sat.pAgainE (St.mk [((0 : Nat), AV.tree (List.map encVersion l)), ((3 : Nat), AV.sref (Site.head (3 : Nat) (0 : Nat)) (0 : Nat) (acc.length + (1 : Nat))), ((4 : Nat), AV.int IntKind.i64 (IntKind.i64.wrap ((↑k : Int) + (1 : Int))))] [(Site.head (3 : Nat) (0 : Nat), Blk.row (4 : Nat) (List.map encHead acc ++ [AV.agg [AV.int IntKind.i64 _x11.Item, AV.int IntKind.i64 _x11.S.L, AV.int IntKind.i64 _x11.S.R, AV.int IntKind.i64 _x11.S.N]]) Bool.true Bool.true)]) (by kernel_rfl) (by simp [encHead, _w15]) (again ((k + (1 : Nat), acc ++ [Head.mk _x11.Item _x11.S])) (by (clear again; (dsimp only; (refine ⟨by omega, ?_, by simp; omega⟩; rw [take_succ (by assumption), ha]; simp [headsOf])))) (by (clear again; (dsimp only; omega)))))))
     (fun _h14 => (_h14 trivial).elim))) (fun _h13 => False.elim (by omega))))))))) (fun _h10 =>
     (have _w16 : List.take acc.length (List.map encHead acc) = List.map encHead acc := List.take_of_length_le (by simp);
     (Sat.pRet (Res.mk (AV.tree (List.take acc.length (List.map encHead acc))) [] []) (by kernel_rfl) (by (clear again; (rw [List.take_of_length_le (by omega)] at ha; simp_all; done)))))))
end Go.Ab.Tryz
