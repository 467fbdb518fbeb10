/- Package cardamomref1: versions that may be, as plain Lean. -/
import Derived.Test.YtodelhgblkhjgaaGreatDoorRef1e
namespace Go.Ab.Tryz
open Go
set_option maxRecDepth 100000
set_option maxHeartbeats 4000000
def lastA (l : List Attr) : Nat → Int
  | 0 => -1
  | k + 1 => ((l[k]?).map Attr.Key).getD (-1)
theorem c21 (v : Version) (ha : v.Attrs.length ≤ 100000) (ht : v.Tag.length ≤ 100000) (hb : v.Body.length ≤ 100000) : X.call 21 [encVersion v] [] ⟨.bool v.may, [], []⟩ := by
  refine spec_of ok Go.Proofs.Tryz.func21 ok21 ?_
  have again_l : v.may = attrsMay (-1) v.Attrs → v.Attrs.length ≤ 3 → Sat X 21 (loopD X.cfg 21 Go.Proofs.Tryz.f21 0 4 ⟨[(1, .ref (.head 1 0) 0 0), (3, .int .i64 0)], [(.head 1 0, .box (encVersion v) true)]⟩) (· = ⟨.bool v.may, [], []⟩) := by
    intro e0 e1
    rw [e0]
    refine Sat.pLoop 4 (St.mk [((1 : Nat), AV.ref (Site.head (1 : Nat) (0 : Nat)) (0 : Nat) (0 : Nat)), ((3 : Nat), AV.int IntKind.i64 (0 : Int))] [(Site.head (1 : Nat) (0 : Nat), Blk.box (encVersion v) Bool.true)]) (by kernel_rfl) (fun (k : Nat) => ⟨[(1, .ref (.head 1 0) 0 0), (3, .int .i64 k)], [(.head 1 0, .box (encVersion v) true)]⟩) (fun k => k ≤ v.Attrs.length ∧ attrsMay (-1) v.Attrs = attrsMay (lastA v.Attrs k) (v.Attrs.drop k) ∧ -1 ≤ lastA v.Attrs k) (fun k => v.Attrs.length - k) 0 rfl ?_ ?_
    · simp [lastA]
    · intro k hI again
      have hk := hI.1
      have hs := hI.2.1
      have hl := hI.2.2
      clear hI
      have h0 : k = 0 ∨ ∃ j, k = j + 1 := by cases k <;> simp
      refine (Sat.pIfE ((↑k : Int) < (↑(List.map encAttr v.Attrs).length : Int)) (k < v.Attrs.length) (by kernel_rfl) (by simp only [List.length_map, Int.ofNat_lt]) (fun _h14 =>
       (Sat.pNodeT true (by kernel_rfl) rfl (Sat.pElemM (encAttr) (v.Attrs) (List.map encAttr v.Attrs) (k) (by kernel_rfl) rfl (by assumption) (fun _x15 _hx16 =>
       (Sat.pIf (_x15.Key < (0 : Int)) (by kernel_rfl) (fun _h17 => (Sat.pIfET (_x15.Key < (0 : Int)) (_x15.Key < (0 : Int)) (by kernel_rfl) Iff.rfl _h17
       (Sat.pIfET (_x15.Key < (0 : Int)) (_x15.Key < (0 : Int)) (by kernel_rfl) Iff.rfl _h17 (Sat.pIfET (_x15.Key < (0 : Int)) (_x15.Key < (0 : Int)) (by kernel_rfl) Iff.rfl _h17
       (Sat.pNodeT true (by kernel_rfl) rfl (Sat.pNodeT true (by kernel_rfl) rfl (Sat.pNodeT true (by kernel_rfl) rfl (Sat.pNodeT true (by kernel_rfl) rfl (Sat.pNodeT true (by kernel_rfl) rfl
       (Sat.pNodeT true (by kernel_rfl) rfl (Sat.pNodeT true (by kernel_rfl) rfl (Sat.pNodeT true (by kernel_rfl) rfl (Sat.pNodeT true (by kernel_rfl) rfl (Sat.pNodeT true (by kernel_rfl) rfl
       (Sat.pNodeT true (by kernel_rfl) rfl (Sat.pNodeT true (by kernel_rfl) rfl (Sat.pNodeT true (by kernel_rfl) rfl (Sat.pNodeT true (by kernel_rfl) rfl
       (Sat.pRet (Res.mk (AV.bool Bool.false) [] []) (by kernel_rfl) (by (clear again; (rw [hs, drop_at (by assumption)]; simp only [attrsMay]; rw [decide_eq_false (by omega)]; rfl))))))))))))))))))))))
       (fun _h17 => (Sat.pIfEF (_x15.Key < (0 : Int)) (_x15.Key < (0 : Int)) (by kernel_rfl) Iff.rfl _h17 (Sat.pIfEF (_x15.Key < (0 : Int)) (_x15.Key < (0 : Int)) (by kernel_rfl) Iff.rfl _h17
       (Sat.pIfEF (_x15.Key < (0 : Int)) (_x15.Key < (0 : Int)) (by kernel_rfl) Iff.rfl _h17 (Sat.pIf ((4 : Int) ≤ _x15.Key) (by kernel_rfl) (fun _h18 =>
       (Sat.pIfET ((4 : Int) ≤ _x15.Key) ((4 : Int) ≤ _x15.Key) (by kernel_rfl) Iff.rfl _h18 (Sat.pIfET ((4 : Int) ≤ _x15.Key) ((4 : Int) ≤ _x15.Key) (by kernel_rfl) Iff.rfl _h18
       (Sat.pIfET ((4 : Int) ≤ _x15.Key) ((4 : Int) ≤ _x15.Key) (by kernel_rfl) Iff.rfl _h18 (Sat.pNodeT true (by kernel_rfl) rfl (Sat.pNodeT true (by kernel_rfl) rfl (Sat.pNodeT true (by kernel_rfl) rfl
       (Sat.pNodeT true (by kernel_rfl) rfl (Sat.pNodeT true (by kernel_rfl) rfl (Sat.pNodeT true (by kernel_rfl) rfl (Sat.pNodeT true (by kernel_rfl) rfl (Sat.pNodeT true (by kernel_rfl) rfl
       (Sat.pNodeT true (by kernel_rfl) rfl (Sat.pNodeT true (by kernel_rfl) rfl
       (Sat.pRet (Res.mk (AV.bool Bool.false) [] []) (by kernel_rfl) (by (clear again; (rw [hs, drop_at (by assumption)]; simp only [attrsMay]; rw [decide_eq_false (by omega)]; rfl))))))))))))))))))
       (fun _h18 => (Sat.pIfEF ((4 : Int) ≤ _x15.Key) ((4 : Int) ≤ _x15.Key) (by kernel_rfl) Iff.rfl _h18 (Sat.pIfEF ((4 : Int) ≤ _x15.Key) ((4 : Int) ≤ _x15.Key) (by kernel_rfl) Iff.rfl _h18
       (Sat.pIfEF ((4 : Int) ≤ _x15.Key) ((4 : Int) ≤ _x15.Key) (by kernel_rfl) Iff.rfl _h18 (Sat.pIf (_x15.Val < (0 : Int)) (by kernel_rfl) (fun _h19 =>
       (Sat.pIfET (_x15.Val < (0 : Int)) (_x15.Val < (0 : Int)) (by kernel_rfl) Iff.rfl _h19 (Sat.pIfET (_x15.Val < (0 : Int)) (_x15.Val < (0 : Int)) (by kernel_rfl) Iff.rfl _h19
       (Sat.pIfET (_x15.Val < (0 : Int)) (_x15.Val < (0 : Int)) (by kernel_rfl) Iff.rfl _h19 (Sat.pNodeT true (by kernel_rfl) rfl (Sat.pNodeT true (by kernel_rfl) rfl (Sat.pNodeT true (by kernel_rfl) rfl
       (Sat.pNodeT true (by kernel_rfl) rfl (Sat.pNodeT true (by kernel_rfl) rfl (Sat.pNodeT true (by kernel_rfl) rfl
       (Sat.pRet (Res.mk (AV.bool Bool.false) [] []) (by kernel_rfl) (by (clear again; (rw [hs, drop_at (by assumption)]; simp only [attrsMay]; rw [decide_eq_false (by omega)]; rfl)))))))))))))) (fun _h19 =>
       (Sat.pIfEF (_x15.Val < (0 : Int)) (_x15.Val < (0 : Int)) (by kernel_rfl) Iff.rfl _h19 (Sat.pIfEF (_x15.Val < (0 : Int)) (_x15.Val < (0 : Int)) (by kernel_rfl) Iff.rfl _h19
       (Sat.pIfEF (_x15.Val < (0 : Int)) (_x15.Val < (0 : Int)) (by kernel_rfl) Iff.rfl _h19 (Sat.pIf ((99 : Int) < _x15.Val) (by kernel_rfl) (fun _h20 =>
       (Sat.pIfET ((99 : Int) < _x15.Val) ((99 : Int) < _x15.Val) (by kernel_rfl) Iff.rfl _h20 (Sat.pIfET ((99 : Int) < _x15.Val) ((99 : Int) < _x15.Val) (by kernel_rfl) Iff.rfl _h20
       (Sat.pIfET ((99 : Int) < _x15.Val) ((99 : Int) < _x15.Val) (by kernel_rfl) Iff.rfl _h20 (Sat.pIfET ((99 : Int) < _x15.Val) ((99 : Int) < _x15.Val) (by kernel_rfl) Iff.rfl _h20
       (Sat.pNodeT true (by kernel_rfl) rfl
       (Sat.pRet (Res.mk (AV.bool Bool.false) [] []) (by kernel_rfl) (by (clear again; (rw [hs, drop_at (by assumption)]; simp only [attrsMay]; rw [decide_eq_false (by omega)]; rfl)))))))))) (fun _h20 =>
       (Sat.pIfEF ((99 : Int) < _x15.Val) ((99 : Int) < _x15.Val) (by kernel_rfl) Iff.rfl _h20 (Sat.pIfEF ((99 : Int) < _x15.Val) ((99 : Int) < _x15.Val) (by kernel_rfl) Iff.rfl _h20
       (Sat.pIfE ((0 : Int) < (↑k : Int)) ((0 : Nat) < k) (by kernel_rfl) (by simp only [ciLt]) (fun _h21 => (Sat.pIfET ((0 : Int) < (↑k : Int)) ((0 : Nat) < k) (by kernel_rfl) (by simp only [ciLt]) _h21
       (Sat.pIfET ((0 : Int) < (↑k : Int)) ((0 : Nat) < k) (by kernel_rfl) (by simp only [ciLt]) _h21 (Sat.pIfET ((0 : Int) < (↑k : Int)) ((0 : Nat) < k) (by kernel_rfl) (by simp only [ciLt]) _h21
       (Sat.pIfET ((0 : Int) < (↑k : Int)) ((0 : Nat) < k) (by kernel_rfl) (by simp only [ciLt]) _h21 (Sat.pIfET ((0 : Int) < (↑k : Int)) ((0 : Nat) < k) (by kernel_rfl) (by simp only [ciLt]) _h21
       (Sat.pIfET ((0 : Int) < (↑k : Int)) ((0 : Nat) < k) (by kernel_rfl) (by simp only [ciLt]) _h21
       (have _w22 : IntKind.i64.wrap ((↑k : Int) - (1 : Int)) = (↑k : Int) - (1 : Int) := wI64 (by omega) (by omega);
       (Sat.pIfE ((0 : Int) ≤ IntKind.i64.wrap ((↑k : Int) - (1 : Int))) ((0 : Int) ≤ (↑k : Int) - (1 : Int)) (by kernel_rfl) (by simp only [_w22]) (fun _h23 =>
       (Sat.pElemME (encAttr) (v.Attrs) (List.map encAttr v.Attrs) ((IntKind.i64.wrap ((↑k : Int) - (1 : Int))).toNat) (((↑k : Int) - (1 : Int)).toNat) (by kernel_rfl) (by simp only [_w22]) rfl (by omega)
       (fun _x24 _hx25 => (Sat.pIfET ((0 : Int) < (↑k : Int)) ((0 : Nat) < k) (by kernel_rfl) (by simp only [ciLt]) _h21
       (Sat.pIfET ((0 : Int) < (↑k : Int)) ((0 : Nat) < k) (by kernel_rfl) (by simp only [ciLt]) _h21 (Sat.pIfET ((0 : Int) < (↑k : Int)) ((0 : Nat) < k) (by kernel_rfl) (by simp only [ciLt]) _h21
       (Sat.pIfEF ((99 : Int) < _x15.Val) ((99 : Int) < _x15.Val) (by kernel_rfl) Iff.rfl _h20 (Sat.pIfET ((0 : Int) < (↑k : Int)) ((0 : Nat) < k) (by kernel_rfl) (by simp only [ciLt]) _h21
       (Sat.pIfEF ((99 : Int) < _x15.Val) ((99 : Int) < _x15.Val) (by kernel_rfl) Iff.rfl _h20 (Sat.pIf (_x15.Key ≤ _x24.Key) (by kernel_rfl) (fun _h26 =>
       (Sat.pRet (Res.mk (AV.bool Bool.false) [] []) (by kernel_rfl) (by (clear again; (rw [hs, drop_at (by assumption)]; rcases h0 with rfl | ⟨j, rfl⟩ <;> simp_all [attrsMay, lastA] <;> omega)))))
       (fun _h26 => (have _w27 : IntKind.i64.wrap ((↑k : Int) + (1 : Int)) = (↑k : Int) + (1 : Int) := wI64 (by omega) (by omega);
       (Sat.pAgainE (St.mk [((1 : Nat), AV.ref (Site.head (1 : Nat) (0 : Nat)) (0 : Nat) (0 : Nat)), ((3 : Nat), AV.int IntKind.i64 (IntKind.i64.wrap ((↑k : Int) + (1 : Int))))] [(Site.head (1 : Nat) (0 : Nat), Blk.box (AV.agg [AV.int IntKind.i64 v.Item, AV.int IntKind.i64 v.S.L, AV.int IntKind.i64 v.S.R, AV.int IntKind.i64 v.S.N, AV.bool v.Dead, AV.tree (List.map encAttr v.Attrs), AV.str v.Tag, AV.str v.Body]) Bool.true)]) (by kernel_rfl) (by simp [encVersion, _w27]) (again (k + (1 : Nat)) ⟨(by omega), ⟨(by (clear again; (rw [hs, drop_at (by assumption)]; rcases h0 with rfl | ⟨j, rfl⟩ <;> simp_all [attrsMay, lastA] <;> omega))), (by (clear again; (rw [drop_at (by assumption)] at hs; rcases h0 with rfl | ⟨j, rfl⟩ <;> simp_all [attrsMay, lastA] <;> omega)))⟩⟩ (by omega)))))))))))))))
       (fun _h23 => False.elim (by omega))))))))))) (fun _h21 => (Sat.pIfEF ((0 : Int) < (↑k : Int)) ((0 : Nat) < k) (by kernel_rfl) (by simp only [ciLt]) _h21
       (Sat.pIfEF ((0 : Int) < (↑k : Int)) ((0 : Nat) < k) (by kernel_rfl) (by simp only [ciLt]) _h21 (Sat.pIfEF ((0 : Int) < (↑k : Int)) ((0 : Nat) < k) (by kernel_rfl) (by simp only [ciLt]) _h21
       (Sat.pIfEF ((0 : Int) < (↑k : Int)) ((0 : Nat) < k) (by kernel_rfl) (by simp only [ciLt]) _h21 (Sat.pIfEF ((0 : Int) < (↑k : Int)) ((0 : Nat) < k) (by kernel_rfl) (by simp only [ciLt]) _h21
       (Sat.pIfEF ((0 : Int) < (↑k : Int)) ((0 : Nat) < k) (by kernel_rfl) (by simp only [ciLt]) _h21 (Sat.pIfEF ((0 : Int) < (↑k : Int)) ((0 : Nat) < k) (by kernel_rfl) (by simp only [ciLt]) _h21
       (Sat.pIfEF ((0 : Int) < (↑k : Int)) ((0 : Nat) < k) (by kernel_rfl) (by simp only [ciLt]) _h21 (Sat.pIfEF ((0 : Int) < (↑k : Int)) ((0 : Nat) < k) (by kernel_rfl) (by simp only [ciLt]) _h21
       (Sat.pIfEF ((99 : Int) < _x15.Val) ((99 : Int) < _x15.Val) (by kernel_rfl) Iff.rfl _h20 (Sat.pIfEF ((0 : Int) < (↑k : Int)) ((0 : Nat) < k) (by kernel_rfl) (by simp only [ciLt]) _h21
       (Sat.pIfEF ((99 : Int) < _x15.Val) ((99 : Int) < _x15.Val) (by kernel_rfl) Iff.rfl _h20 (Sat.pNodeF false (by kernel_rfl) rfl
       (have _w28 : IntKind.i64.wrap ((↑k : Int) + (1 : Int)) = (↑k : Int) + (1 : Int) := wI64 (by omega) (by omega);
       (Sat.pAgainE (St.mk [((1 : Nat), AV.ref (Site.head (1 : Nat) (0 : Nat)) (0 : Nat) (0 : Nat)), ((3 : Nat), AV.int IntKind.i64 (IntKind.i64.wrap ((↑k : Int) + (1 : Int))))] [(Site.head (1 : Nat) (0 : Nat), Blk.box (AV.agg [AV.int IntKind.i64 v.Item, AV.int IntKind.i64 v.S.L, AV.int IntKind.i64 v.S.R, AV.int IntKind.i64 v.S.N, AV.bool v.Dead, AV.tree (List.map encAttr v.Attrs), AV.str v.Tag, AV.str v.Body]) Bool.true)]) (by kernel_rfl) (by simp [encVersion, _w28]) (again (k + (1 : Nat)) ⟨(by omega), ⟨(by (clear again; (rw [hs, drop_at (by assumption)]; rcases h0 with rfl | ⟨j, rfl⟩ <;> simp_all [attrsMay, lastA] <;> omega))), (by (clear again; (rw [drop_at (by assumption)] at hs; rcases h0 with rfl | ⟨j, rfl⟩ <;> simp_all [attrsMay, lastA] <;> omega)))⟩⟩ (by omega))))))))))))))))))))))))))))))))))))))))))
       (fun _h14 => (Sat.pRet (Res.mk (AV.bool Bool.true) [] []) (by kernel_rfl) (by (clear again; (rw [hs, List.drop_of_length_le (by omega)]; simp [attrsMay]))))))
  refine (Sat.pIf (v.Item < (1 : Int)) (by kernel_rfl) (fun _h6 => (Sat.pIfET (v.Item < (1 : Int)) (v.Item < (1 : Int)) (by kernel_rfl) Iff.rfl _h6
   (Sat.pIfET (v.Item < (1 : Int)) (v.Item < (1 : Int)) (by kernel_rfl) Iff.rfl _h6 (Sat.pIfET (v.Item < (1 : Int)) (v.Item < (1 : Int)) (by kernel_rfl) Iff.rfl _h6 (Sat.pNodeT true (by kernel_rfl) rfl
   (Sat.pNodeT true (by kernel_rfl) rfl (Sat.pNodeT true (by kernel_rfl) rfl (Sat.pNodeT true (by kernel_rfl) rfl (Sat.pNodeT true (by kernel_rfl) rfl (Sat.pNodeT true (by kernel_rfl) rfl
   (Sat.pNodeT true (by kernel_rfl) rfl (Sat.pNodeT true (by kernel_rfl) rfl (Sat.pNodeT true (by kernel_rfl) rfl (Sat.pNodeT true (by kernel_rfl) rfl (Sat.pNodeT true (by kernel_rfl) rfl
   (Sat.pNodeT true (by kernel_rfl) rfl (Sat.pNodeT true (by kernel_rfl) rfl (Sat.pNodeT true (by kernel_rfl) rfl (Sat.pNodeT true (by kernel_rfl) rfl (Sat.pNodeT true (by kernel_rfl) rfl
   (Sat.pNodeT true (by kernel_rfl) rfl (Sat.pNodeT true (by kernel_rfl) rfl (Sat.pNodeT true (by kernel_rfl) rfl (Sat.pNodeT true (by kernel_rfl) rfl (Sat.pNodeT true (by kernel_rfl) rfl
   (Sat.pNodeT true (by kernel_rfl) rfl (Sat.pNodeT true (by kernel_rfl) rfl (Sat.pNodeT true (by kernel_rfl) rfl (Sat.pNodeT true (by kernel_rfl) rfl (Sat.pNodeT true (by kernel_rfl) rfl
   (Sat.pRet (Res.mk (AV.bool Bool.false) [] []) (by kernel_rfl) (by (clear again_l; (simp [Version.may]; omega)))))))))))))))))))))))))))))))))) (fun _h6 =>
   (Sat.pIfEF (v.Item < (1 : Int)) (v.Item < (1 : Int)) (by kernel_rfl) Iff.rfl _h6 (Sat.pIfEF (v.Item < (1 : Int)) (v.Item < (1 : Int)) (by kernel_rfl) Iff.rfl _h6
   (Sat.pIfEF (v.Item < (1 : Int)) (v.Item < (1 : Int)) (by kernel_rfl) Iff.rfl _h6 (Sat.pIf ((6 : Int) < v.Item) (by kernel_rfl) (fun _h7 =>
   (Sat.pIfET ((6 : Int) < v.Item) ((6 : Int) < v.Item) (by kernel_rfl) Iff.rfl _h7 (Sat.pIfET ((6 : Int) < v.Item) ((6 : Int) < v.Item) (by kernel_rfl) Iff.rfl _h7
   (Sat.pIfET ((6 : Int) < v.Item) ((6 : Int) < v.Item) (by kernel_rfl) Iff.rfl _h7 (Sat.pIfET ((6 : Int) < v.Item) ((6 : Int) < v.Item) (by kernel_rfl) Iff.rfl _h7 (Sat.pNodeT true (by kernel_rfl) rfl
   (Sat.pNodeT true (by kernel_rfl) rfl (Sat.pNodeT true (by kernel_rfl) rfl (Sat.pNodeT true (by kernel_rfl) rfl (Sat.pNodeT true (by kernel_rfl) rfl (Sat.pNodeT true (by kernel_rfl) rfl
   (Sat.pNodeT true (by kernel_rfl) rfl (Sat.pNodeT true (by kernel_rfl) rfl (Sat.pNodeT true (by kernel_rfl) rfl (Sat.pNodeT true (by kernel_rfl) rfl (Sat.pNodeT true (by kernel_rfl) rfl
   (Sat.pNodeT true (by kernel_rfl) rfl (Sat.pNodeT true (by kernel_rfl) rfl (Sat.pNodeT true (by kernel_rfl) rfl (Sat.pNodeT true (by kernel_rfl) rfl (Sat.pNodeT true (by kernel_rfl) rfl
   (Sat.pNodeT true (by kernel_rfl) rfl (Sat.pNodeT true (by kernel_rfl) rfl (Sat.pNodeT true (by kernel_rfl) rfl (Sat.pNodeT true (by kernel_rfl) rfl (Sat.pNodeT true (by kernel_rfl) rfl
   (Sat.pRet (Res.mk (AV.bool Bool.false) [] []) (by kernel_rfl) (by (clear again_l; (simp [Version.may]; omega)))))))))))))))))))))))))))))) (fun _h7 =>
   (Sat.pIfEF ((6 : Int) < v.Item) ((6 : Int) < v.Item) (by kernel_rfl) Iff.rfl _h7 (Sat.pIfEF ((6 : Int) < v.Item) ((6 : Int) < v.Item) (by kernel_rfl) Iff.rfl _h7
   (Sat.pCallE 36 ([AV.agg [AV.int IntKind.i64 v.S.L, AV.int IntKind.i64 v.S.R, AV.int IntKind.i64 v.S.N]]) ([]) (by kernel_rfl) rfl rfl (@Go.Ab.Tryz.c36 (v.S))
   (Sat.pIfEF ((6 : Int) < v.Item) ((6 : Int) < v.Item) (by kernel_rfl) Iff.rfl _h7 (Sat.pIfEF ((6 : Int) < v.Item) ((6 : Int) < v.Item) (by kernel_rfl) Iff.rfl _h7 (Sat.pNodeN (v.S.may) (by kernel_rfl)
   (fun _h8 => (Sat.pNodeT (!v.S.may) (by kernel_rfl) (by rw [_h8]; rfl) (Sat.pNodeT (!v.S.may) (by kernel_rfl) (by rw [_h8]; rfl) (Sat.pNodeT (!v.S.may) (by kernel_rfl) (by rw [_h8]; rfl)
   (Sat.pNodeT (!v.S.may) (by kernel_rfl) (by rw [_h8]; rfl) (Sat.pNodeT true (by kernel_rfl) rfl (Sat.pNodeT true (by kernel_rfl) rfl (Sat.pNodeT true (by kernel_rfl) rfl
   (Sat.pNodeT true (by kernel_rfl) rfl (Sat.pNodeT true (by kernel_rfl) rfl (Sat.pNodeT true (by kernel_rfl) rfl (Sat.pNodeT true (by kernel_rfl) rfl (Sat.pNodeT true (by kernel_rfl) rfl
   (Sat.pNodeT true (by kernel_rfl) rfl (Sat.pNodeT true (by kernel_rfl) rfl (Sat.pNodeT true (by kernel_rfl) rfl (Sat.pNodeT true (by kernel_rfl) rfl (Sat.pNodeT true (by kernel_rfl) rfl
   (Sat.pNodeT true (by kernel_rfl) rfl (Sat.pNodeT true (by kernel_rfl) rfl (Sat.pNodeT true (by kernel_rfl) rfl
   (Sat.pRet (Res.mk (AV.bool Bool.false) [] []) (by kernel_rfl) (by (clear again_l; (simp_all [Version.may]; done))))))))))))))))))))))))) (fun _h8 =>
   (Sat.pNodeF (!v.S.may) (by kernel_rfl) (by rw [_h8]; rfl) (Sat.pNodeF (!v.S.may) (by kernel_rfl) (by rw [_h8]; rfl) (Sat.pNodeF (!v.S.may) (by kernel_rfl) (by rw [_h8]; rfl)
   (Sat.pNodeF (!v.S.may) (by kernel_rfl) (by rw [_h8]; rfl)
   (Sat.pIfE ((3 : Int) < (↑(List.map encAttr v.Attrs).length : Int)) ((3 : Nat) < v.Attrs.length) (by kernel_rfl) (by simp only [List.length_map, ciLt]) (fun _h9 =>
   (Sat.pIfET ((3 : Int) < (↑(List.map encAttr v.Attrs).length : Int)) ((3 : Nat) < v.Attrs.length) (by kernel_rfl) (by simp only [List.length_map, ciLt]) _h9
   (Sat.pIfET ((3 : Int) < (↑(List.map encAttr v.Attrs).length : Int)) ((3 : Nat) < v.Attrs.length) (by kernel_rfl) (by simp only [List.length_map, ciLt]) _h9
   (Sat.pIfET ((3 : Int) < (↑(List.map encAttr v.Attrs).length : Int)) ((3 : Nat) < v.Attrs.length) (by kernel_rfl) (by simp only [List.length_map, ciLt]) _h9
   (Sat.pIfET ((3 : Int) < (↑(List.map encAttr v.Attrs).length : Int)) ((3 : Nat) < v.Attrs.length) (by kernel_rfl) (by simp only [List.length_map, ciLt]) _h9 (Sat.pNodeT true (by kernel_rfl) rfl
   (Sat.pNodeT true (by kernel_rfl) rfl (Sat.pNodeT true (by kernel_rfl) rfl (Sat.pNodeT true (by kernel_rfl) rfl (Sat.pNodeT true (by kernel_rfl) rfl (Sat.pNodeT true (by kernel_rfl) rfl
   (Sat.pNodeT true (by kernel_rfl) rfl (Sat.pNodeT true (by kernel_rfl) rfl (Sat.pNodeT true (by kernel_rfl) rfl (Sat.pNodeT true (by kernel_rfl) rfl (Sat.pNodeT true (by kernel_rfl) rfl
   (Sat.pRet (Res.mk (AV.bool Bool.false) [] []) (by kernel_rfl) (by (clear again_l; (simp [Version.may]; omega)))))))))))))))))))) (fun _h9 =>
   (Sat.pIfEF ((3 : Int) < (↑(List.map encAttr v.Attrs).length : Int)) ((3 : Nat) < v.Attrs.length) (by kernel_rfl) (by simp only [List.length_map, ciLt]) _h9
   (Sat.pIfEF ((3 : Int) < (↑(List.map encAttr v.Attrs).length : Int)) ((3 : Nat) < v.Attrs.length) (by kernel_rfl) (by simp only [List.length_map, ciLt]) _h9
   (Sat.pCallE 37 ([AV.str v.Tag, AV.int IntKind.i64 (6 : Int)]) ([]) (by kernel_rfl) rfl rfl (@Go.Ab.Tryz.c37 (v.Tag) ((6 : Int)) (by assumption))
   (Sat.pIfEF ((3 : Int) < (↑(List.map encAttr v.Attrs).length : Int)) ((3 : Nat) < v.Attrs.length) (by kernel_rfl) (by simp only [List.length_map, ciLt]) _h9
   (Sat.pIfEF ((3 : Int) < (↑(List.map encAttr v.Attrs).length : Int)) ((3 : Nat) < v.Attrs.length) (by kernel_rfl) (by simp only [List.length_map, ciLt]) _h9
   (Sat.pNodeEN (v.Tag.all isLetter && decide ((↑v.Tag.length : Int) ≤ (6 : Int))) (v.Tag.all isLetter = Bool.true ∧ v.Tag.length ≤ (6 : Nat)) (by kernel_rfl) (by simp only [Bool.and_eq_true, decide_eq_true_eq, icLe])
   (fun _h10 =>
   (Sat.pNodeENF (v.Tag.all isLetter && decide ((↑v.Tag.length : Int) ≤ (6 : Int))) (v.Tag.all isLetter = Bool.true ∧ v.Tag.length ≤ (6 : Nat)) (by kernel_rfl) (by simp only [Bool.and_eq_true, decide_eq_true_eq, icLe]) _h10
   (Sat.pNodeENF (v.Tag.all isLetter && decide ((↑v.Tag.length : Int) ≤ (6 : Int))) (v.Tag.all isLetter = Bool.true ∧ v.Tag.length ≤ (6 : Nat)) (by kernel_rfl) (by simp only [Bool.and_eq_true, decide_eq_true_eq, icLe]) _h10
   (Sat.pNodeENF (v.Tag.all isLetter && decide ((↑v.Tag.length : Int) ≤ (6 : Int))) (v.Tag.all isLetter = Bool.true ∧ v.Tag.length ≤ (6 : Nat)) (by kernel_rfl) (by simp only [Bool.and_eq_true, decide_eq_true_eq, icLe]) _h10
   (Sat.pNodeENF (v.Tag.all isLetter && decide ((↑v.Tag.length : Int) ≤ (6 : Int))) (v.Tag.all isLetter = Bool.true ∧ v.Tag.length ≤ (6 : Nat)) (by kernel_rfl) (by simp only [Bool.and_eq_true, decide_eq_true_eq, icLe]) _h10
   (Sat.pNodeT true (by kernel_rfl) rfl (Sat.pNodeT true (by kernel_rfl) rfl (Sat.pNodeT true (by kernel_rfl) rfl (Sat.pNodeT true (by kernel_rfl) rfl (Sat.pNodeT true (by kernel_rfl) rfl
   (Sat.pNodeT true (by kernel_rfl) rfl (Sat.pRet (Res.mk (AV.bool Bool.false) [] []) (by kernel_rfl) (by (clear again_l; grind [Version.may])))))))))))))) (fun _h10 =>
   (Sat.pNodeENT (v.Tag.all isLetter && decide ((↑v.Tag.length : Int) ≤ (6 : Int))) (v.Tag.all isLetter = Bool.true ∧ v.Tag.length ≤ (6 : Nat)) (by kernel_rfl) (by simp only [Bool.and_eq_true, decide_eq_true_eq, icLe]) _h10
   (Sat.pNodeENT (v.Tag.all isLetter && decide ((↑v.Tag.length : Int) ≤ (6 : Int))) (v.Tag.all isLetter = Bool.true ∧ v.Tag.length ≤ (6 : Nat)) (by kernel_rfl) (by simp only [Bool.and_eq_true, decide_eq_true_eq, icLe]) _h10
   (Sat.pNodeENT (v.Tag.all isLetter && decide ((↑v.Tag.length : Int) ≤ (6 : Int))) (v.Tag.all isLetter = Bool.true ∧ v.Tag.length ≤ (6 : Nat)) (by kernel_rfl) (by simp only [Bool.and_eq_true, decide_eq_true_eq, icLe]) _h10
   (Sat.pNodeENT (v.Tag.all isLetter && decide ((↑v.Tag.length : Int) ≤ (6 : Int))) (v.Tag.all isLetter = Bool.true ∧ v.Tag.length ≤ (6 : Nat)) (by kernel_rfl) (by simp only [Bool.and_eq_true, decide_eq_true_eq, icLe]) _h10
   (Sat.pIfE ((12 : Int) < (↑v.Body.length : Int)) ((12 : Nat) < v.Body.length) (by kernel_rfl) (by simp only [ciLt]) (fun _h19 =>
   (Sat.pIfET ((12 : Int) < (↑v.Body.length : Int)) ((12 : Nat) < v.Body.length) (by kernel_rfl) (by simp only [ciLt]) _h19
   (Sat.pIfET ((12 : Int) < (↑v.Body.length : Int)) ((12 : Nat) < v.Body.length) (by kernel_rfl) (by simp only [ciLt]) _h19
   (Sat.pIfET ((12 : Int) < (↑v.Body.length : Int)) ((12 : Nat) < v.Body.length) (by kernel_rfl) (by simp only [ciLt]) _h19
   (Sat.pIfET ((12 : Int) < (↑v.Body.length : Int)) ((12 : Nat) < v.Body.length) (by kernel_rfl) (by simp only [ciLt]) _h19 (Sat.pNodeT true (by kernel_rfl) rfl
   (Sat.pRet (Res.mk (AV.bool Bool.false) [] []) (by kernel_rfl) (by (clear again_l; (simp [Version.may]; omega)))))))))) (fun _h19 =>
   (Sat.pIfEF ((12 : Int) < (↑v.Body.length : Int)) ((12 : Nat) < v.Body.length) (by kernel_rfl) (by simp only [ciLt]) _h19
   (Sat.pIfEF ((12 : Int) < (↑v.Body.length : Int)) ((12 : Nat) < v.Body.length) (by kernel_rfl) (by simp only [ciLt]) _h19 (Sat.pNode (v.Dead) (by kernel_rfl) (fun _h20 =>
   (Sat.pNodeT (v.Dead) (by kernel_rfl) _h20 (Sat.pNodeT (v.Dead) (by kernel_rfl) _h20
   (Sat.pIfEF ((12 : Int) < (↑v.Body.length : Int)) ((12 : Nat) < v.Body.length) (by kernel_rfl) (by simp only [ciLt]) _h19 (Sat.pNodeT (v.Dead) (by kernel_rfl) _h20
   (Sat.pIfEF ((12 : Int) < (↑v.Body.length : Int)) ((12 : Nat) < v.Body.length) (by kernel_rfl) (by simp only [ciLt]) _h19 (Sat.pIfN (v.Body = []) (by kernel_rfl) (fun _h21 =>
   (Sat.pRet (Res.mk (AV.bool Bool.false) [] []) (by kernel_rfl) (by (clear again_l; (simp_all [Version.may]; done))))) (fun _h21 =>
   (Sat.pJoinE (L := loopD X.cfg (21 : FuncId) Proofs.Tryz.f21 (0 : Nat) (4 : Nat)) (St.mk [((1 : Nat), AV.ref (Site.head (1 : Nat) (0 : Nat)) (0 : Nat) (0 : Nat)), ((3 : Nat), AV.int IntKind.i64 (0 : Int))] [(Site.head (1 : Nat) (0 : Nat), Blk.box (AV.agg [AV.int IntKind.i64 v.Item, AV.int IntKind.i64 v.S.L, AV.int IntKind.i64 v.S.R, AV.int IntKind.i64 v.S.N, AV.bool v.Dead, AV.tree (List.map encAttr v.Attrs), AV.str v.Tag, AV.str v.Body]) Bool.true)]) (by kernel_rfl) rfl rfl (again_l (by (clear again_l; (simp_all [Version.may]; done))) (by omega)))))))))))
   (fun _h20 => (Sat.pNodeF (v.Dead) (by kernel_rfl) _h20 (Sat.pNodeF (v.Dead) (by kernel_rfl) _h20
   (Sat.pIfEF ((12 : Int) < (↑v.Body.length : Int)) ((12 : Nat) < v.Body.length) (by kernel_rfl) (by simp only [ciLt]) _h19 (Sat.pNodeF (v.Dead) (by kernel_rfl) _h20
   (Sat.pIfEF ((12 : Int) < (↑v.Body.length : Int)) ((12 : Nat) < v.Body.length) (by kernel_rfl) (by simp only [ciLt]) _h19 (Sat.pNodeF false (by kernel_rfl) rfl
   (Sat.pJoinE (L := loopD X.cfg (21 : FuncId) Proofs.Tryz.f21 (0 : Nat) (4 : Nat)) (St.mk [((1 : Nat), AV.ref (Site.head (1 : Nat) (0 : Nat)) (0 : Nat) (0 : Nat)), ((3 : Nat), AV.int IntKind.i64 (0 : Int))] [(Site.head (1 : Nat) (0 : Nat), Blk.box (AV.agg [AV.int IntKind.i64 v.Item, AV.int IntKind.i64 v.S.L, AV.int IntKind.i64 v.S.R, AV.int IntKind.i64 v.S.N, AV.bool v.Dead, AV.tree (List.map encAttr v.Attrs), AV.str v.Tag, AV.str v.Body]) Bool.true)]) (by kernel_rfl) rfl rfl (again_l (by (clear again_l; (simp_all [Version.may]; done))) (by omega))))))))))))))))))))))))))))))))))))))))))))))
end Go.Ab.Tryz
