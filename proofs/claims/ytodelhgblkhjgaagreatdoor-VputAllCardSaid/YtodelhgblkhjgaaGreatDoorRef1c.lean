/- Package cardamomref1: which may be, which are alike, as plain Lean. -/
import Derived.Test.YtodelhgblkhjgaaGreatDoorRef1b
namespace Go.Ab.Tryz
open Go
set_option maxRecDepth 100000
set_option maxHeartbeats 4000000
theorem c12 (a b : Version) (ha : a.Attrs.length ≤ 100000) : X.call 12 [encVersion a, encVersion b] [] ⟨.bool (decide (a = b)), [], []⟩ := by
  refine spec_of ok Go.Proofs.Tryz.func12 ok12 ?_
  refine (Sat.pIfN (a.Item = b.Item) (by kernel_rfl) (fun _h4 => (Sat.pIfENT (a.Item = b.Item) (a.Item = b.Item) (by kernel_rfl) Iff.rfl _h4
   (Sat.pIfENT (a.Item = b.Item) (a.Item = b.Item) (by kernel_rfl) Iff.rfl _h4 (Sat.pIfENT (a.Item = b.Item) (a.Item = b.Item) (by kernel_rfl) Iff.rfl _h4
   (Sat.pIfENT (a.Item = b.Item) (a.Item = b.Item) (by kernel_rfl) Iff.rfl _h4 (Sat.pIfENT (a.Item = b.Item) (a.Item = b.Item) (by kernel_rfl) Iff.rfl _h4 (Sat.pNodeT true (by kernel_rfl) rfl
   (Sat.pNodeT true (by kernel_rfl) rfl (Sat.pNodeT true (by kernel_rfl) rfl (Sat.pNodeT true (by kernel_rfl) rfl (Sat.pNodeT true (by kernel_rfl) rfl (Sat.pNodeT true (by kernel_rfl) rfl
   (Sat.pNodeT true (by kernel_rfl) rfl (Sat.pNodeT true (by kernel_rfl) rfl (Sat.pNodeT true (by kernel_rfl) rfl (Sat.pNodeT true (by kernel_rfl) rfl (Sat.pNodeT true (by kernel_rfl) rfl
   (Sat.pNodeT true (by kernel_rfl) rfl (Sat.pNodeT true (by kernel_rfl) rfl (Sat.pNodeT true (by kernel_rfl) rfl (Sat.pNodeT true (by kernel_rfl) rfl (Sat.pNodeT true (by kernel_rfl) rfl
   (Sat.pNodeT true (by kernel_rfl) rfl (Sat.pNodeT true (by kernel_rfl) rfl (Sat.pNodeT true (by kernel_rfl) rfl (Sat.pNodeT true (by kernel_rfl) rfl (Sat.pNodeT true (by kernel_rfl) rfl
   (Sat.pNodeT true (by kernel_rfl) rfl (Sat.pNodeT true (by kernel_rfl) rfl (Sat.pNodeT true (by kernel_rfl) rfl (Sat.pNodeT true (by kernel_rfl) rfl (Sat.pNodeT true (by kernel_rfl) rfl
   (Sat.pNodeT true (by kernel_rfl) rfl (Sat.pRet (Res.mk (AV.bool Bool.false) [] []) (by kernel_rfl) (by (simp; intro e; subst e; simp_all)))))))))))))))))))))))))))))))))))) (fun _h4 =>
   (Sat.pIfENF (a.Item = b.Item) (a.Item = b.Item) (by kernel_rfl) Iff.rfl _h4 (Sat.pIfENF (a.Item = b.Item) (a.Item = b.Item) (by kernel_rfl) Iff.rfl _h4
   (Sat.pIfENF (a.Item = b.Item) (a.Item = b.Item) (by kernel_rfl) Iff.rfl _h4 (Sat.pIfENF (a.Item = b.Item) (a.Item = b.Item) (by kernel_rfl) Iff.rfl _h4
   (Sat.pIfENF (a.Item = b.Item) (a.Item = b.Item) (by kernel_rfl) Iff.rfl _h4
   (Sat.pNodeEN (decide (a.S.L = b.S.L) && (decide (a.S.R = b.S.R) && (decide (a.S.N = b.S.N) && Bool.true))) (a.S.L = b.S.L ∧ a.S.R = b.S.R ∧ a.S.N = b.S.N ∧ True) (by kernel_rfl) (by simp only [Bool.and_eq_true, decide_eq_true_eq])
   (fun _h5 =>
   (Sat.pNodeENF (decide (a.S.L = b.S.L) && (decide (a.S.R = b.S.R) && (decide (a.S.N = b.S.N) && Bool.true))) (a.S.L = b.S.L ∧ a.S.R = b.S.R ∧ a.S.N = b.S.N ∧ True) (by kernel_rfl) (by simp only [Bool.and_eq_true, decide_eq_true_eq]) _h5
   (Sat.pNodeENF (decide (a.S.L = b.S.L) && (decide (a.S.R = b.S.R) && (decide (a.S.N = b.S.N) && Bool.true))) (a.S.L = b.S.L ∧ a.S.R = b.S.R ∧ a.S.N = b.S.N ∧ True) (by kernel_rfl) (by simp only [Bool.and_eq_true, decide_eq_true_eq]) _h5
   (Sat.pNodeENF (decide (a.S.L = b.S.L) && (decide (a.S.R = b.S.R) && (decide (a.S.N = b.S.N) && Bool.true))) (a.S.L = b.S.L ∧ a.S.R = b.S.R ∧ a.S.N = b.S.N ∧ True) (by kernel_rfl) (by simp only [Bool.and_eq_true, decide_eq_true_eq]) _h5
   (Sat.pNodeENF (decide (a.S.L = b.S.L) && (decide (a.S.R = b.S.R) && (decide (a.S.N = b.S.N) && Bool.true))) (a.S.L = b.S.L ∧ a.S.R = b.S.R ∧ a.S.N = b.S.N ∧ True) (by kernel_rfl) (by simp only [Bool.and_eq_true, decide_eq_true_eq]) _h5
   (Sat.pNodeENF (decide (a.S.L = b.S.L) && (decide (a.S.R = b.S.R) && (decide (a.S.N = b.S.N) && Bool.true))) (a.S.L = b.S.L ∧ a.S.R = b.S.R ∧ a.S.N = b.S.N ∧ True) (by kernel_rfl) (by simp only [Bool.and_eq_true, decide_eq_true_eq]) _h5
   (Sat.pNodeT true (by kernel_rfl) rfl (Sat.pNodeT true (by kernel_rfl) rfl (Sat.pNodeT true (by kernel_rfl) rfl (Sat.pNodeT true (by kernel_rfl) rfl (Sat.pNodeT true (by kernel_rfl) rfl
   (Sat.pNodeT true (by kernel_rfl) rfl (Sat.pNodeT true (by kernel_rfl) rfl (Sat.pNodeT true (by kernel_rfl) rfl (Sat.pNodeT true (by kernel_rfl) rfl (Sat.pNodeT true (by kernel_rfl) rfl
   (Sat.pNodeT true (by kernel_rfl) rfl (Sat.pNodeT true (by kernel_rfl) rfl (Sat.pNodeT true (by kernel_rfl) rfl (Sat.pNodeT true (by kernel_rfl) rfl (Sat.pNodeT true (by kernel_rfl) rfl
   (Sat.pNodeT true (by kernel_rfl) rfl (Sat.pNodeT true (by kernel_rfl) rfl (Sat.pNodeT true (by kernel_rfl) rfl (Sat.pNodeT true (by kernel_rfl) rfl (Sat.pNodeT true (by kernel_rfl) rfl
   (Sat.pNodeT true (by kernel_rfl) rfl (Sat.pRet (Res.mk (AV.bool Bool.false) [] []) (by kernel_rfl) (by (simp; intro e; subst e; simp_all)))))))))))))))))))))))))))))) (fun _h5 =>
   (Sat.pNodeENT (decide (a.S.L = b.S.L) && (decide (a.S.R = b.S.R) && (decide (a.S.N = b.S.N) && Bool.true))) (a.S.L = b.S.L ∧ a.S.R = b.S.R ∧ a.S.N = b.S.N ∧ True) (by kernel_rfl) (by simp only [Bool.and_eq_true, decide_eq_true_eq]) _h5
   (Sat.pNodeENT (decide (a.S.L = b.S.L) && (decide (a.S.R = b.S.R) && (decide (a.S.N = b.S.N) && Bool.true))) (a.S.L = b.S.L ∧ a.S.R = b.S.R ∧ a.S.N = b.S.N ∧ True) (by kernel_rfl) (by simp only [Bool.and_eq_true, decide_eq_true_eq]) _h5
   (Sat.pNodeENT (decide (a.S.L = b.S.L) && (decide (a.S.R = b.S.R) && (decide (a.S.N = b.S.N) && Bool.true))) (a.S.L = b.S.L ∧ a.S.R = b.S.R ∧ a.S.N = b.S.N ∧ True) (by kernel_rfl) (by simp only [Bool.and_eq_true, decide_eq_true_eq]) _h5
   (Sat.pNodeENT (decide (a.S.L = b.S.L) && (decide (a.S.R = b.S.R) && (decide (a.S.N = b.S.N) && Bool.true))) (a.S.L = b.S.L ∧ a.S.R = b.S.R ∧ a.S.N = b.S.N ∧ True) (by kernel_rfl) (by simp only [Bool.and_eq_true, decide_eq_true_eq]) _h5
   (Sat.pNodeENT (decide (a.S.L = b.S.L) && (decide (a.S.R = b.S.R) && (decide (a.S.N = b.S.N) && Bool.true))) (a.S.L = b.S.L ∧ a.S.R = b.S.R ∧ a.S.N = b.S.N ∧ True) (by kernel_rfl) (by simp only [Bool.and_eq_true, decide_eq_true_eq]) _h5
   (Sat.pIfN (a.Dead = b.Dead) (by kernel_rfl) (fun _h16 => (Sat.pIfENT (a.Dead = b.Dead) (a.Dead = b.Dead) (by kernel_rfl) Iff.rfl _h16
   (Sat.pIfENT (a.Dead = b.Dead) (a.Dead = b.Dead) (by kernel_rfl) Iff.rfl _h16 (Sat.pIfENT (a.Dead = b.Dead) (a.Dead = b.Dead) (by kernel_rfl) Iff.rfl _h16
   (Sat.pIfENT (a.Dead = b.Dead) (a.Dead = b.Dead) (by kernel_rfl) Iff.rfl _h16 (Sat.pIfENT (a.Dead = b.Dead) (a.Dead = b.Dead) (by kernel_rfl) Iff.rfl _h16 (Sat.pNodeT true (by kernel_rfl) rfl
   (Sat.pNodeT true (by kernel_rfl) rfl (Sat.pNodeT true (by kernel_rfl) rfl (Sat.pNodeT true (by kernel_rfl) rfl (Sat.pNodeT true (by kernel_rfl) rfl (Sat.pNodeT true (by kernel_rfl) rfl
   (Sat.pNodeT true (by kernel_rfl) rfl (Sat.pNodeT true (by kernel_rfl) rfl (Sat.pNodeT true (by kernel_rfl) rfl (Sat.pNodeT true (by kernel_rfl) rfl (Sat.pNodeT true (by kernel_rfl) rfl
   (Sat.pNodeT true (by kernel_rfl) rfl (Sat.pNodeT true (by kernel_rfl) rfl (Sat.pNodeT true (by kernel_rfl) rfl (Sat.pNodeT true (by kernel_rfl) rfl
   (Sat.pRet (Res.mk (AV.bool Bool.false) [] []) (by kernel_rfl) (by (simp; intro e; subst e; simp_all)))))))))))))))))))))))) (fun _h16 =>
   (Sat.pIfENF (a.Dead = b.Dead) (a.Dead = b.Dead) (by kernel_rfl) Iff.rfl _h16 (Sat.pIfENF (a.Dead = b.Dead) (a.Dead = b.Dead) (by kernel_rfl) Iff.rfl _h16
   (Sat.pIfENF (a.Dead = b.Dead) (a.Dead = b.Dead) (by kernel_rfl) Iff.rfl _h16 (Sat.pIfENF (a.Dead = b.Dead) (a.Dead = b.Dead) (by kernel_rfl) Iff.rfl _h16
   (Sat.pIfENF (a.Dead = b.Dead) (a.Dead = b.Dead) (by kernel_rfl) Iff.rfl _h16 (Sat.pIfN (a.Tag = b.Tag) (by kernel_rfl) (fun _h17 =>
   (Sat.pIfENT (a.Tag = b.Tag) (a.Tag = b.Tag) (by kernel_rfl) Iff.rfl _h17 (Sat.pIfENT (a.Tag = b.Tag) (a.Tag = b.Tag) (by kernel_rfl) Iff.rfl _h17
   (Sat.pIfENT (a.Tag = b.Tag) (a.Tag = b.Tag) (by kernel_rfl) Iff.rfl _h17 (Sat.pIfENT (a.Tag = b.Tag) (a.Tag = b.Tag) (by kernel_rfl) Iff.rfl _h17
   (Sat.pIfENT (a.Tag = b.Tag) (a.Tag = b.Tag) (by kernel_rfl) Iff.rfl _h17 (Sat.pNodeT true (by kernel_rfl) rfl (Sat.pNodeT true (by kernel_rfl) rfl (Sat.pNodeT true (by kernel_rfl) rfl
   (Sat.pNodeT true (by kernel_rfl) rfl (Sat.pNodeT true (by kernel_rfl) rfl (Sat.pNodeT true (by kernel_rfl) rfl (Sat.pNodeT true (by kernel_rfl) rfl (Sat.pNodeT true (by kernel_rfl) rfl
   (Sat.pNodeT true (by kernel_rfl) rfl (Sat.pRet (Res.mk (AV.bool Bool.false) [] []) (by kernel_rfl) (by (simp; intro e; subst e; simp_all)))))))))))))))))) (fun _h17 =>
   (Sat.pIfENF (a.Tag = b.Tag) (a.Tag = b.Tag) (by kernel_rfl) Iff.rfl _h17 (Sat.pIfENF (a.Tag = b.Tag) (a.Tag = b.Tag) (by kernel_rfl) Iff.rfl _h17
   (Sat.pIfENF (a.Tag = b.Tag) (a.Tag = b.Tag) (by kernel_rfl) Iff.rfl _h17 (Sat.pIfENF (a.Tag = b.Tag) (a.Tag = b.Tag) (by kernel_rfl) Iff.rfl _h17
   (Sat.pIfENF (a.Tag = b.Tag) (a.Tag = b.Tag) (by kernel_rfl) Iff.rfl _h17 (Sat.pIfN (a.Body = b.Body) (by kernel_rfl) (fun _h18 =>
   (Sat.pIfENT (a.Body = b.Body) (a.Body = b.Body) (by kernel_rfl) Iff.rfl _h18 (Sat.pIfENT (a.Body = b.Body) (a.Body = b.Body) (by kernel_rfl) Iff.rfl _h18
   (Sat.pIfENT (a.Body = b.Body) (a.Body = b.Body) (by kernel_rfl) Iff.rfl _h18 (Sat.pIfENT (a.Body = b.Body) (a.Body = b.Body) (by kernel_rfl) Iff.rfl _h18
   (Sat.pIfENT (a.Body = b.Body) (a.Body = b.Body) (by kernel_rfl) Iff.rfl _h18 (Sat.pIfENT (a.Body = b.Body) (a.Body = b.Body) (by kernel_rfl) Iff.rfl _h18
   (Sat.pIfENT (a.Body = b.Body) (a.Body = b.Body) (by kernel_rfl) Iff.rfl _h18 (Sat.pNodeT true (by kernel_rfl) rfl
   (Sat.pRet (Res.mk (AV.bool Bool.false) [] []) (by kernel_rfl) (by (simp; intro e; subst e; simp_all)))))))))))) (fun _h18 => (Sat.pIfENF (a.Body = b.Body) (a.Body = b.Body) (by kernel_rfl) Iff.rfl _h18
   (Sat.pIfENF (a.Body = b.Body) (a.Body = b.Body) (by kernel_rfl) Iff.rfl _h18 (Sat.pIfENF (a.Body = b.Body) (a.Body = b.Body) (by kernel_rfl) Iff.rfl _h18
   (Sat.pIfENF (a.Body = b.Body) (a.Body = b.Body) (by kernel_rfl) Iff.rfl _h18 (Sat.pIfENF (a.Body = b.Body) (a.Body = b.Body) (by kernel_rfl) Iff.rfl _h18
   (Sat.pIfENF (a.Body = b.Body) (a.Body = b.Body) (by kernel_rfl) Iff.rfl _h18 (Sat.pIfENF (a.Body = b.Body) (a.Body = b.Body) (by kernel_rfl) Iff.rfl _h18
   (Sat.pIfEN ((↑(List.map encAttr a.Attrs).length : Int) = (↑(List.map encAttr b.Attrs).length : Int)) (a.Attrs.length = b.Attrs.length) (by kernel_rfl) (by simp only [List.length_map, Int.natCast_inj])
   (fun _h19 => (Sat.pRet (Res.mk (AV.bool Bool.false) [] []) (by kernel_rfl) (by (simp; intro e; subst e; simp_all)))) (fun _h19 => ?_)))))))))))))))))))))))))))))))))))))))
  refine Sat.pLoop 4 (St.mk [((2 : Nat), AV.ref (Site.head (2 : Nat) (0 : Nat)) (0 : Nat) (0 : Nat)), ((3 : Nat), AV.ref (Site.head (3 : Nat) (0 : Nat)) (0 : Nat) (0 : Nat)), ((5 : Nat), AV.int IntKind.i64 (0 : Int))] [(Site.head (2 : Nat) (0 : Nat), Blk.box (AV.agg [AV.int IntKind.i64 a.Item, AV.int IntKind.i64 a.S.L, AV.int IntKind.i64 a.S.R, AV.int IntKind.i64 a.S.N, AV.bool a.Dead, AV.tree (List.map encAttr a.Attrs), AV.str a.Tag, AV.str a.Body]) Bool.true), (Site.head (3 : Nat) (0 : Nat), Blk.box (AV.agg [AV.int IntKind.i64 b.Item, AV.int IntKind.i64 b.S.L, AV.int IntKind.i64 b.S.R, AV.int IntKind.i64 b.S.N, AV.bool b.Dead, AV.tree (List.map encAttr b.Attrs), AV.str b.Tag, AV.str b.Body]) Bool.true)]) (by kernel_rfl) (fun (k : Nat) => ⟨[(2, .ref (.head 2 0) 0 0), (3, .ref (.head 3 0) 0 0), (5, .int .i64 k)], [(.head 2 0, .box (encVersion a) true), (.head 3 0, .box (encVersion b) true)]⟩) (fun k => k ≤ a.Attrs.length ∧ a.Attrs.take k = b.Attrs.take k) (fun k => a.Attrs.length - k) 0 rfl ?_ ?_
  · simp
  · intro k hk again
    refine (Sat.pIfE ((↑k : Int) < (↑(List.map encAttr a.Attrs).length : Int)) (k < a.Attrs.length) (by kernel_rfl) (by simp only [List.length_map, Int.ofNat_lt]) (fun _h13 =>
     (Sat.pNodeT true (by kernel_rfl) rfl (Sat.pElemM (encAttr) (a.Attrs) (List.map encAttr a.Attrs) (k) (by kernel_rfl) rfl (by assumption) (fun _x14 _hx15 => (Sat.pNodeT true (by kernel_rfl) rfl
     (Sat.pElemM (encAttr) (b.Attrs) (List.map encAttr b.Attrs) (k) (by kernel_rfl) rfl (by omega) (fun _x16 _hx17 =>
     (Sat.pNodeEN (decide (_x14.Key = _x16.Key) && (decide (_x14.Val = _x16.Val) && Bool.true)) (_x14.Key = _x16.Key ∧ _x14.Val = _x16.Val ∧ True) (by kernel_rfl) (by simp only [Bool.and_eq_true, decide_eq_true_eq])
     (fun _h20 => (Sat.pRet (Res.mk (AV.bool Bool.false) [] []) (by kernel_rfl) (by (clear again; (simp; intro e; subst e; simp_all))))) (fun _h20 =>
     (have _w21 : IntKind.i64.wrap ((↑k : Int) + (1 : Int)) = (↑k : Int) + (1 : Int) := wI64 (by omega) (by omega);
     (Sat.pAgainE (St.mk [((2 : Nat), AV.ref (Site.head (2 : Nat) (0 : Nat)) (0 : Nat) (0 : Nat)), ((3 : Nat), AV.ref (Site.head (3 : Nat) (0 : Nat)) (0 : Nat) (0 : Nat)), ((5 : Nat), AV.int IntKind.i64 (IntKind.i64.wrap ((↑k : Int) + (1 : Int))))] [(Site.head (2 : Nat) (0 : Nat), Blk.box (AV.agg [AV.int IntKind.i64 a.Item, AV.int IntKind.i64 a.S.L, AV.int IntKind.i64 a.S.R, AV.int IntKind.i64 a.S.N, AV.bool a.Dead, AV.tree (List.map encAttr a.Attrs), AV.str a.Tag, AV.str a.Body]) Bool.true), (Site.head (3 : Nat) (0 : Nat), Blk.box (AV.agg [AV.int IntKind.i64 b.Item, AV.int IntKind.i64 b.S.L, AV.int IntKind.i64 b.S.R, AV.int IntKind.i64 b.S.N, AV.bool b.Dead, AV.tree (List.map encAttr b.Attrs), AV.str b.Tag, AV.str b.Body]) Bool.true)]) (by kernel_rfl) (by simp [encVersion, _w21]) (again (k + (1 : Nat)) (by (clear again; (refine ⟨by omega, ?_⟩; rw [take_succ (by assumption), take_succ (by assumption), hk.2]; simp_all [Attr.ext_iff]))) (by omega)))))))))))))
     (fun _h13 =>
     (Sat.pRet (Res.mk (AV.bool Bool.true) [] []) (by kernel_rfl) (by (clear again; (rw [List.take_of_length_le (by omega), List.take_of_length_le (by omega)] at hk; simp_all [Version.ext_iff, Stamp.ext_iff]))))))
end Go.Ab.Tryz
