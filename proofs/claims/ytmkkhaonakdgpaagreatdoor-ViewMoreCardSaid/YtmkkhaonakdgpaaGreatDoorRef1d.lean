/- Package cardamomref1: which may be, as plain Lean. -/
import Derived.Test.YtmkkhaonakdgpaaGreatDoorRef1c
namespace Go.Ab.Tryz
open Go
set_option maxRecDepth 100000
set_option maxHeartbeats 4000000
theorem c53 (l : List Head) (hl : l.length ≤ 100000) : X.call 53 [.tree (l.map encHead)] [] ⟨.bool (headsMay 0 l), [], []⟩ := by
  refine spec_of ok Go.Proofs.Tryz.func53 ok53 ?_
  refine ?_
  refine Sat.pLoop 2 (St.mk [((0 : Nat), AV.tree (List.map encHead l)), ((3 : Nat), AV.int IntKind.i64 (0 : Int))] []) (by kernel_rfl) (fun (k : Nat) => ⟨[(0, .tree (l.map encHead)), (3, .int .i64 k)], []⟩) (fun k => k ≤ l.length ∧ headsMay 0 l = headsMay (lastH l k) (l.drop k)) (fun k => l.length - k) 0 rfl ?_ ?_
  · simp [lastH]
  · intro k hk again
    obtain ⟨hk, he⟩ := hk
    have h0 : k = 0 ∨ ∃ j, k = j + 1 := by cases k <;> simp
    refine (Sat.pIfE ((↑k : Int) < (↑(List.map encHead l).length : Int)) (k < l.length) (by kernel_rfl) (by simp only [List.length_map, Int.ofNat_lt]) (fun _h9 => (Sat.pNodeT true (by kernel_rfl) rfl
     (Sat.pElemM (encHead) (l) (List.map encHead l) (k) (by kernel_rfl) rfl (by assumption) (fun _x10 _hx11 => (Sat.pIf (_x10.Item < (1 : Int)) (by kernel_rfl) (fun _h12 =>
     (Sat.pIfET (_x10.Item < (1 : Int)) (_x10.Item < (1 : Int)) (by kernel_rfl) Iff.rfl _h12 (Sat.pIfET (_x10.Item < (1 : Int)) (_x10.Item < (1 : Int)) (by kernel_rfl) Iff.rfl _h12
     (Sat.pIfET (_x10.Item < (1 : Int)) (_x10.Item < (1 : Int)) (by kernel_rfl) Iff.rfl _h12 (Sat.pIfET (_x10.Item < (1 : Int)) (_x10.Item < (1 : Int)) (by kernel_rfl) Iff.rfl _h12
     (Sat.pIfET (_x10.Item < (1 : Int)) (_x10.Item < (1 : Int)) (by kernel_rfl) Iff.rfl _h12 (Sat.pIfET (_x10.Item < (1 : Int)) (_x10.Item < (1 : Int)) (by kernel_rfl) Iff.rfl _h12
     (Sat.pNodeT true (by kernel_rfl) rfl (Sat.pNodeT true (by kernel_rfl) rfl (Sat.pNodeT true (by kernel_rfl) rfl (Sat.pNodeT true (by kernel_rfl) rfl (Sat.pNodeT true (by kernel_rfl) rfl
     (Sat.pNodeT true (by kernel_rfl) rfl (Sat.pNodeT true (by kernel_rfl) rfl (Sat.pNodeT true (by kernel_rfl) rfl (Sat.pNodeT true (by kernel_rfl) rfl (Sat.pNodeT true (by kernel_rfl) rfl
     (Sat.pNodeT true (by kernel_rfl) rfl (Sat.pNodeT true (by kernel_rfl) rfl (Sat.pNodeT true (by kernel_rfl) rfl (Sat.pNodeT true (by kernel_rfl) rfl
     (Sat.pRet (Res.mk (AV.bool Bool.false) [] []) (by kernel_rfl) (by (clear again; (rw [he, drop_at (by assumption)]; simp only [headsMay]; rw [decide_eq_false (by omega)]; rfl)))))))))))))))))))))))))
     (fun _h12 => (Sat.pIfEF (_x10.Item < (1 : Int)) (_x10.Item < (1 : Int)) (by kernel_rfl) Iff.rfl _h12 (Sat.pIfEF (_x10.Item < (1 : Int)) (_x10.Item < (1 : Int)) (by kernel_rfl) Iff.rfl _h12
     (Sat.pNodeT true (by kernel_rfl) rfl (Sat.pElemH (encHead) (l) (List.map encHead l) (k) (k) (_x10) (by kernel_rfl) rfl rfl _hx11
     (Sat.pIfEF (_x10.Item < (1 : Int)) (_x10.Item < (1 : Int)) (by kernel_rfl) Iff.rfl _h12 (Sat.pIfEF (_x10.Item < (1 : Int)) (_x10.Item < (1 : Int)) (by kernel_rfl) Iff.rfl _h12
     (Sat.pIfEF (_x10.Item < (1 : Int)) (_x10.Item < (1 : Int)) (by kernel_rfl) Iff.rfl _h12 (Sat.pIfEF (_x10.Item < (1 : Int)) (_x10.Item < (1 : Int)) (by kernel_rfl) Iff.rfl _h12
     (Sat.pIf ((6 : Int) < _x10.Item) (by kernel_rfl) (fun _h13 => (Sat.pIfET ((6 : Int) < _x10.Item) ((6 : Int) < _x10.Item) (by kernel_rfl) Iff.rfl _h13
     (Sat.pIfET ((6 : Int) < _x10.Item) ((6 : Int) < _x10.Item) (by kernel_rfl) Iff.rfl _h13 (Sat.pIfET ((6 : Int) < _x10.Item) ((6 : Int) < _x10.Item) (by kernel_rfl) Iff.rfl _h13
     (Sat.pIfET ((6 : Int) < _x10.Item) ((6 : Int) < _x10.Item) (by kernel_rfl) Iff.rfl _h13 (Sat.pIfET ((6 : Int) < _x10.Item) ((6 : Int) < _x10.Item) (by kernel_rfl) Iff.rfl _h13
     (Sat.pIfET ((6 : Int) < _x10.Item) ((6 : Int) < _x10.Item) (by kernel_rfl) Iff.rfl _h13 (Sat.pIfET ((6 : Int) < _x10.Item) ((6 : Int) < _x10.Item) (by kernel_rfl) Iff.rfl _h13
     (Sat.pNodeT true (by kernel_rfl) rfl (Sat.pNodeT true (by kernel_rfl) rfl (Sat.pNodeT true (by kernel_rfl) rfl (Sat.pNodeT true (by kernel_rfl) rfl (Sat.pNodeT true (by kernel_rfl) rfl
     (Sat.pNodeT true (by kernel_rfl) rfl
     (Sat.pRet (Res.mk (AV.bool Bool.false) [] []) (by kernel_rfl) (by (clear again; (rw [he, drop_at (by assumption)]; simp only [headsMay]; rw [decide_eq_false (by omega)]; rfl))))))))))))))))))
     (fun _h13 => (Sat.pIfEF ((6 : Int) < _x10.Item) ((6 : Int) < _x10.Item) (by kernel_rfl) Iff.rfl _h13 (Sat.pIfEF ((6 : Int) < _x10.Item) ((6 : Int) < _x10.Item) (by kernel_rfl) Iff.rfl _h13
     (Sat.pNodeT true (by kernel_rfl) rfl (Sat.pElemH (encHead) (l) (List.map encHead l) (k) (k) (_x10) (by kernel_rfl) rfl rfl _hx11
     (Sat.pIfEF ((6 : Int) < _x10.Item) ((6 : Int) < _x10.Item) (by kernel_rfl) Iff.rfl _h13 (Sat.pIfEF ((6 : Int) < _x10.Item) ((6 : Int) < _x10.Item) (by kernel_rfl) Iff.rfl _h13
     (Sat.pIfEF ((6 : Int) < _x10.Item) ((6 : Int) < _x10.Item) (by kernel_rfl) Iff.rfl _h13
     (Sat.pCallE 110 ([AV.agg [AV.int IntKind.i64 _x10.S.L, AV.int IntKind.i64 _x10.S.R, AV.int IntKind.i64 _x10.S.N]]) ([]) (by kernel_rfl) rfl rfl (@Go.Ab.Tryz.c110 (_x10.S))
     (Sat.pIfEF ((6 : Int) < _x10.Item) ((6 : Int) < _x10.Item) (by kernel_rfl) Iff.rfl _h13 (Sat.pIfEF ((6 : Int) < _x10.Item) ((6 : Int) < _x10.Item) (by kernel_rfl) Iff.rfl _h13
     (Sat.pNodeN (_x10.S.may) (by kernel_rfl) (fun _h14 => (Sat.pNodeT (!_x10.S.may) (by kernel_rfl) (by rw [_h14]; rfl) (Sat.pNodeT (!_x10.S.may) (by kernel_rfl) (by rw [_h14]; rfl)
     (Sat.pNodeT (!_x10.S.may) (by kernel_rfl) (by rw [_h14]; rfl) (Sat.pNodeT (!_x10.S.may) (by kernel_rfl) (by rw [_h14]; rfl) (Sat.pNodeT true (by kernel_rfl) rfl
     (Sat.pRet (Res.mk (AV.bool Bool.false) [] []) (by kernel_rfl) (by (clear again; (rw [he, drop_at (by assumption)]; rcases h0 with rfl | ⟨j, rfl⟩ <;> simp_all [headsMay, lastH] <;> omega))))))))))
     (fun _h14 => (Sat.pNodeF (!_x10.S.may) (by kernel_rfl) (by rw [_h14]; rfl) (Sat.pNodeF (!_x10.S.may) (by kernel_rfl) (by rw [_h14]; rfl)
     (Sat.pIfE ((0 : Int) < (↑k : Int)) ((0 : Nat) < k) (by kernel_rfl) (by simp only [ciLt]) (fun _h15 => (Sat.pIfET ((0 : Int) < (↑k : Int)) ((0 : Nat) < k) (by kernel_rfl) (by simp only [ciLt]) _h15
     (Sat.pIfET ((0 : Int) < (↑k : Int)) ((0 : Nat) < k) (by kernel_rfl) (by simp only [ciLt]) _h15 (Sat.pNodeT true (by kernel_rfl) rfl
     (Sat.pElemH (encHead) (l) (List.map encHead l) (k) (k) (_x10) (by kernel_rfl) rfl rfl _hx11 (Sat.pIfET ((0 : Int) < (↑k : Int)) ((0 : Nat) < k) (by kernel_rfl) (by simp only [ciLt]) _h15
     (Sat.pIfET ((0 : Int) < (↑k : Int)) ((0 : Nat) < k) (by kernel_rfl) (by simp only [ciLt]) _h15 (Sat.pIfET ((0 : Int) < (↑k : Int)) ((0 : Nat) < k) (by kernel_rfl) (by simp only [ciLt]) _h15
     (Sat.pIfET ((0 : Int) < (↑k : Int)) ((0 : Nat) < k) (by kernel_rfl) (by simp only [ciLt]) _h15 (Sat.pIfET ((0 : Int) < (↑k : Int)) ((0 : Nat) < k) (by kernel_rfl) (by simp only [ciLt]) _h15
     (Sat.pIfET ((0 : Int) < (↑k : Int)) ((0 : Nat) < k) (by kernel_rfl) (by simp only [ciLt]) _h15
     (have _w16 : IntKind.i64.wrap ((↑k : Int) - (1 : Int)) = (↑k : Int) - (1 : Int) := wI64 (by omega) (by omega);
     (Sat.pIfE ((0 : Int) ≤ IntKind.i64.wrap ((↑k : Int) - (1 : Int))) ((0 : Int) ≤ (↑k : Int) - (1 : Int)) (by kernel_rfl) (by simp only [_w16]) (fun _h17 =>
     (Sat.pElemME (encHead) (l) (List.map encHead l) ((IntKind.i64.wrap ((↑k : Int) - (1 : Int))).toNat) (((↑k : Int) - (1 : Int)).toNat) (by kernel_rfl) (by simp only [_w16]) rfl (by omega)
     (fun _x18 _hx19 => (Sat.pIfET ((0 : Int) < (↑k : Int)) ((0 : Nat) < k) (by kernel_rfl) (by simp only [ciLt]) _h15
     (Sat.pIfET ((0 : Int) < (↑k : Int)) ((0 : Nat) < k) (by kernel_rfl) (by simp only [ciLt]) _h15 (Sat.pIfET ((0 : Int) < (↑k : Int)) ((0 : Nat) < k) (by kernel_rfl) (by simp only [ciLt]) _h15
     (Sat.pNodeF (!_x10.S.may) (by kernel_rfl) (by rw [_h14]; rfl) (Sat.pIfET ((0 : Int) < (↑k : Int)) ((0 : Nat) < k) (by kernel_rfl) (by simp only [ciLt]) _h15
     (Sat.pNodeF (!_x10.S.may) (by kernel_rfl) (by rw [_h14]; rfl) (Sat.pIf (_x10.Item ≤ _x18.Item) (by kernel_rfl) (fun _h20 =>
     (Sat.pRet (Res.mk (AV.bool Bool.false) [] []) (by kernel_rfl) (by (clear again; (rw [he, drop_at (by assumption)]; rcases h0 with rfl | ⟨j, rfl⟩ <;> simp_all [headsMay, lastH] <;> omega)))))
     (fun _h20 => (have _w21 : IntKind.i64.wrap ((↑k : Int) + (1 : Int)) = (↑k : Int) + (1 : Int) := wI64 (by omega) (by omega);
     (Sat.pAgainE (St.mk [((0 : Nat), AV.tree (List.map encHead l)), ((3 : Nat), AV.int IntKind.i64 (IntKind.i64.wrap ((↑k : Int) + (1 : Int))))] []) (by kernel_rfl) (by simp [_w21]) (again (k + (1 : Nat)) (by (clear again; (rw [he, drop_at (by assumption)]; rcases h0 with rfl | ⟨j, rfl⟩ <;> simp_all [headsMay, lastH] <;> omega))) (by omega)))))))))))))))
     (fun _h17 => False.elim (by omega))))))))))))))) (fun _h15 => (Sat.pIfEF ((0 : Int) < (↑k : Int)) ((0 : Nat) < k) (by kernel_rfl) (by simp only [ciLt]) _h15
     (Sat.pIfEF ((0 : Int) < (↑k : Int)) ((0 : Nat) < k) (by kernel_rfl) (by simp only [ciLt]) _h15 (Sat.pIfEF ((0 : Int) < (↑k : Int)) ((0 : Nat) < k) (by kernel_rfl) (by simp only [ciLt]) _h15
     (Sat.pIfEF ((0 : Int) < (↑k : Int)) ((0 : Nat) < k) (by kernel_rfl) (by simp only [ciLt]) _h15 (Sat.pIfEF ((0 : Int) < (↑k : Int)) ((0 : Nat) < k) (by kernel_rfl) (by simp only [ciLt]) _h15
     (Sat.pIfEF ((0 : Int) < (↑k : Int)) ((0 : Nat) < k) (by kernel_rfl) (by simp only [ciLt]) _h15 (Sat.pIfEF ((0 : Int) < (↑k : Int)) ((0 : Nat) < k) (by kernel_rfl) (by simp only [ciLt]) _h15
     (Sat.pIfEF ((0 : Int) < (↑k : Int)) ((0 : Nat) < k) (by kernel_rfl) (by simp only [ciLt]) _h15 (Sat.pIfEF ((0 : Int) < (↑k : Int)) ((0 : Nat) < k) (by kernel_rfl) (by simp only [ciLt]) _h15
     (Sat.pIfEF ((0 : Int) < (↑k : Int)) ((0 : Nat) < k) (by kernel_rfl) (by simp only [ciLt]) _h15 (Sat.pIfEF ((0 : Int) < (↑k : Int)) ((0 : Nat) < k) (by kernel_rfl) (by simp only [ciLt]) _h15
     (Sat.pNodeF (!_x10.S.may) (by kernel_rfl) (by rw [_h14]; rfl) (Sat.pIfEF ((0 : Int) < (↑k : Int)) ((0 : Nat) < k) (by kernel_rfl) (by simp only [ciLt]) _h15
     (Sat.pNodeF (!_x10.S.may) (by kernel_rfl) (by rw [_h14]; rfl) (Sat.pNodeF false (by kernel_rfl) rfl
     (have _w22 : IntKind.i64.wrap ((↑k : Int) + (1 : Int)) = (↑k : Int) + (1 : Int) := wI64 (by omega) (by omega);
     (Sat.pAgainE (St.mk [((0 : Nat), AV.tree (List.map encHead l)), ((3 : Nat), AV.int IntKind.i64 (IntKind.i64.wrap ((↑k : Int) + (1 : Int))))] []) (by kernel_rfl) (by simp [_w22]) (again (k + (1 : Nat)) (by (clear again; (rw [he, drop_at (by assumption)]; rcases h0 with rfl | ⟨j, rfl⟩ <;> simp_all [headsMay, lastH] <;> omega))) (by omega)))))))))))))))))))))))))))))))))))))))))))))))))))
     (fun _h9 => (Sat.pRet (Res.mk (AV.bool Bool.true) [] []) (by kernel_rfl) (by (clear again; (rw [he, List.drop_of_length_le (by omega)]; simp [headsMay]))))))
theorem c221 (v : Version) (key : Int) (hl : v.Attrs.length ≤ 100000) : X.call 221 [encVersion v, .int .i64 key] [] ⟨.tuple [.int .i64 ((attrOf v.Attrs key).getD 0), .bool (attrOf v.Attrs key).isSome], [], []⟩ := by
  refine spec_of ok Go.Proofs.Tryz.func221 ok221 ?_
  refine ?_
  refine Sat.pLoop 2 (St.mk [((1 : Nat), AV.int IntKind.i64 key), ((2 : Nat), AV.ref (Site.head (2 : Nat) (0 : Nat)) (0 : Nat) (0 : Nat)), ((6 : Nat), AV.int IntKind.i64 (0 : Int))] [(Site.head (2 : Nat) (0 : Nat), Blk.box (AV.agg [AV.int IntKind.i64 v.Item, AV.int IntKind.i64 v.S.L, AV.int IntKind.i64 v.S.R, AV.int IntKind.i64 v.S.N, AV.bool v.Dead, AV.tree (List.map encAttr v.Attrs), AV.str v.Tag, AV.str v.Body]) Bool.true)]) (by kernel_rfl) (fun (k : Nat) => ⟨[(1, .int .i64 key), (2, .ref (.head 2 0) 0 0), (6, .int .i64 k)], [(.head 2 0, .box (encVersion v) true)]⟩) (fun k => k ≤ v.Attrs.length ∧ attrOf v.Attrs key = attrOf (v.Attrs.drop k) key) (fun k => v.Attrs.length - k) 0 rfl ?_ ?_
  · simp
  · intro k hk again
    refine (Sat.pIfE ((↑k : Int) < (↑(List.map encAttr v.Attrs).length : Int)) (k < v.Attrs.length) (by kernel_rfl) (by simp only [List.length_map, Int.ofNat_lt]) (fun _h7 =>
     (Sat.pNodeT true (by kernel_rfl) rfl (Sat.pElemM (encAttr) (v.Attrs) (List.map encAttr v.Attrs) (k) (by kernel_rfl) rfl (by assumption) (fun _x8 _hx9 => (Sat.pIf (_x8.Key = key) (by kernel_rfl)
     (fun _h10 => (Sat.pNodeT true (by kernel_rfl) rfl (Sat.pElemH (encAttr) (v.Attrs) (List.map encAttr v.Attrs) (k) (k) (_x8) (by kernel_rfl) rfl rfl _hx9
     (Sat.pRet (Res.mk (AV.tuple [AV.int IntKind.i64 _x8.Val, AV.bool Bool.true]) [] []) (by kernel_rfl) (by (clear again; (rw [hk.2, drop_at (by assumption)]; simp_all [attrOf]))))))) (fun _h10 =>
     (have _w11 : IntKind.i64.wrap ((↑k : Int) + (1 : Int)) = (↑k : Int) + (1 : Int) := wI64 (by omega) (by omega);
     (Sat.pAgainE (St.mk [((1 : Nat), AV.int IntKind.i64 key), ((2 : Nat), AV.ref (Site.head (2 : Nat) (0 : Nat)) (0 : Nat) (0 : Nat)), ((6 : Nat), AV.int IntKind.i64 (IntKind.i64.wrap ((↑k : Int) + (1 : Int))))] [(Site.head (2 : Nat) (0 : Nat), Blk.box (AV.agg [AV.int IntKind.i64 v.Item, AV.int IntKind.i64 v.S.L, AV.int IntKind.i64 v.S.R, AV.int IntKind.i64 v.S.N, AV.bool v.Dead, AV.tree (List.map encAttr v.Attrs), AV.str v.Tag, AV.str v.Body]) Bool.true)]) (by kernel_rfl) (by simp [encVersion, _w11]) (again (k + (1 : Nat)) (by (clear again; (rw [drop_at (by assumption)] at hk; simp_all [attrOf]; omega))) (by omega))))))))))
     (fun _h7 => (Sat.pRet (Res.mk (AV.tuple [AV.int IntKind.i64 (0 : Int), AV.bool Bool.false]) [] []) (by kernel_rfl) (by (clear again; (rw [hk.2, List.drop_of_length_le (by omega)]; rfl))))))
end Go.Ab.Tryz
