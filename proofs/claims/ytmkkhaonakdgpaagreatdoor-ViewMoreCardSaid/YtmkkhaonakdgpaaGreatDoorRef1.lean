/- Package cardamomref1, as plain Lean. -/
import Derived.Test.YtmkkhaonakdgpaaGreatDoorG3
import Derived.Test.YtmkkhaonakdgpaaGreatDoorAb
namespace Go.Ab.Tryz
open Go
set_option maxRecDepth 100000
set_option maxHeartbeats 4000000
theorem c110 (s : Stamp) : X.call 110 [encStamp s] [] ⟨.bool s.may, [], []⟩ := by
  refine spec_of ok Go.Proofs.Tryz.func110 ok110 ?_
  refine (Sat.pIf ((1 : Int) ≤ s.L) (by kernel_rfl) (fun _h2 => (Sat.pIfET ((1 : Int) ≤ s.L) ((1 : Int) ≤ s.L) (by kernel_rfl) Iff.rfl _h2
   (Sat.pIfET ((1 : Int) ≤ s.L) ((1 : Int) ≤ s.L) (by kernel_rfl) Iff.rfl _h2 (Sat.pIfET ((1 : Int) ≤ s.L) ((1 : Int) ≤ s.L) (by kernel_rfl) Iff.rfl _h2 (Sat.pIf (s.L ≤ (5000 : Int)) (by kernel_rfl)
   (fun _h3 => (Sat.pIfET (s.L ≤ (5000 : Int)) (s.L ≤ (5000 : Int)) (by kernel_rfl) Iff.rfl _h3 (Sat.pIfET (s.L ≤ (5000 : Int)) (s.L ≤ (5000 : Int)) (by kernel_rfl) Iff.rfl _h3
   (Sat.pIfET (s.L ≤ (5000 : Int)) (s.L ≤ (5000 : Int)) (by kernel_rfl) Iff.rfl _h3 (Sat.pIf ((1 : Int) ≤ s.R) (by kernel_rfl) (fun _h4 =>
   (Sat.pIfET ((1 : Int) ≤ s.R) ((1 : Int) ≤ s.R) (by kernel_rfl) Iff.rfl _h4 (Sat.pIfET ((1 : Int) ≤ s.R) ((1 : Int) ≤ s.R) (by kernel_rfl) Iff.rfl _h4
   (Sat.pIfET ((1 : Int) ≤ s.R) ((1 : Int) ≤ s.R) (by kernel_rfl) Iff.rfl _h4 (Sat.pIf (s.R ≤ (5 : Int)) (by kernel_rfl) (fun _h5 =>
   (Sat.pIfET (s.R ≤ (5 : Int)) (s.R ≤ (5 : Int)) (by kernel_rfl) Iff.rfl _h5 (Sat.pIfET (s.R ≤ (5 : Int)) (s.R ≤ (5 : Int)) (by kernel_rfl) Iff.rfl _h5
   (Sat.pIfET (s.R ≤ (5 : Int)) (s.R ≤ (5 : Int)) (by kernel_rfl) Iff.rfl _h5 (Sat.pIf ((1 : Int) ≤ s.N) (by kernel_rfl) (fun _h6 =>
   (Sat.pIfET ((1 : Int) ≤ s.N) ((1 : Int) ≤ s.N) (by kernel_rfl) Iff.rfl _h6 (Sat.pIfET ((1 : Int) ≤ s.N) ((1 : Int) ≤ s.N) (by kernel_rfl) Iff.rfl _h6
   (Sat.pIfET ((1 : Int) ≤ s.N) ((1 : Int) ≤ s.N) (by kernel_rfl) Iff.rfl _h6 (Sat.pIf (s.N ≤ (1000 : Int)) (by kernel_rfl) (fun _h7 =>
   (Sat.pIfET (s.N ≤ (1000 : Int)) (s.N ≤ (1000 : Int)) (by kernel_rfl) Iff.rfl _h7 (Sat.pIfET (s.N ≤ (1000 : Int)) (s.N ≤ (1000 : Int)) (by kernel_rfl) Iff.rfl _h7
   (Sat.pIfET (s.N ≤ (1000 : Int)) (s.N ≤ (1000 : Int)) (by kernel_rfl) Iff.rfl _h7 (Sat.pIfET (s.N ≤ (1000 : Int)) (s.N ≤ (1000 : Int)) (by kernel_rfl) Iff.rfl _h7
   (Sat.pIfET (s.N ≤ (1000 : Int)) (s.N ≤ (1000 : Int)) (by kernel_rfl) Iff.rfl _h7 (Sat.pRet (Res.mk (AV.bool (decide (s.N ≤ s.L))) [] []) (by kernel_rfl) (by grind [Stamp.may])))))))) (fun _h7 =>
   (Sat.pIfEF (s.N ≤ (1000 : Int)) (s.N ≤ (1000 : Int)) (by kernel_rfl) Iff.rfl _h7 (Sat.pIfEF (s.N ≤ (1000 : Int)) (s.N ≤ (1000 : Int)) (by kernel_rfl) Iff.rfl _h7
   (Sat.pIfEF (s.N ≤ (1000 : Int)) (s.N ≤ (1000 : Int)) (by kernel_rfl) Iff.rfl _h7 (Sat.pIfEF (s.N ≤ (1000 : Int)) (s.N ≤ (1000 : Int)) (by kernel_rfl) Iff.rfl _h7
   (Sat.pIfEF (s.N ≤ (1000 : Int)) (s.N ≤ (1000 : Int)) (by kernel_rfl) Iff.rfl _h7 (Sat.pRet (Res.mk (AV.bool Bool.false) [] []) (by kernel_rfl) (by grind [Stamp.may]))))))))))))) (fun _h6 =>
   (Sat.pIfEF ((1 : Int) ≤ s.N) ((1 : Int) ≤ s.N) (by kernel_rfl) Iff.rfl _h6 (Sat.pIfEF ((1 : Int) ≤ s.N) ((1 : Int) ≤ s.N) (by kernel_rfl) Iff.rfl _h6
   (Sat.pIfEF ((1 : Int) ≤ s.N) ((1 : Int) ≤ s.N) (by kernel_rfl) Iff.rfl _h6 (Sat.pNodeF false (by kernel_rfl) rfl (Sat.pNodeF false (by kernel_rfl) rfl (Sat.pNodeF false (by kernel_rfl) rfl
   (Sat.pNodeF false (by kernel_rfl) rfl (Sat.pNodeF false (by kernel_rfl) rfl (Sat.pNodeF false (by kernel_rfl) rfl
   (Sat.pRet (Res.mk (AV.bool Bool.false) [] []) (by kernel_rfl) (by grind [Stamp.may]))))))))))))))))) (fun _h5 => (Sat.pIfEF (s.R ≤ (5 : Int)) (s.R ≤ (5 : Int)) (by kernel_rfl) Iff.rfl _h5
   (Sat.pIfEF (s.R ≤ (5 : Int)) (s.R ≤ (5 : Int)) (by kernel_rfl) Iff.rfl _h5 (Sat.pIfEF (s.R ≤ (5 : Int)) (s.R ≤ (5 : Int)) (by kernel_rfl) Iff.rfl _h5 (Sat.pNodeF false (by kernel_rfl) rfl
   (Sat.pNodeF false (by kernel_rfl) rfl (Sat.pNodeF false (by kernel_rfl) rfl (Sat.pNodeF false (by kernel_rfl) rfl (Sat.pNodeF false (by kernel_rfl) rfl (Sat.pNodeF false (by kernel_rfl) rfl
   (Sat.pNodeF false (by kernel_rfl) rfl (Sat.pNodeF false (by kernel_rfl) rfl (Sat.pNodeF false (by kernel_rfl) rfl (Sat.pNodeF false (by kernel_rfl) rfl
   (Sat.pRet (Res.mk (AV.bool Bool.false) [] []) (by kernel_rfl) (by grind [Stamp.may]))))))))))))))))))))) (fun _h4 => (Sat.pIfEF ((1 : Int) ≤ s.R) ((1 : Int) ≤ s.R) (by kernel_rfl) Iff.rfl _h4
   (Sat.pIfEF ((1 : Int) ≤ s.R) ((1 : Int) ≤ s.R) (by kernel_rfl) Iff.rfl _h4 (Sat.pIfEF ((1 : Int) ≤ s.R) ((1 : Int) ≤ s.R) (by kernel_rfl) Iff.rfl _h4 (Sat.pNodeF false (by kernel_rfl) rfl
   (Sat.pNodeF false (by kernel_rfl) rfl (Sat.pNodeF false (by kernel_rfl) rfl (Sat.pNodeF false (by kernel_rfl) rfl (Sat.pNodeF false (by kernel_rfl) rfl (Sat.pNodeF false (by kernel_rfl) rfl
   (Sat.pNodeF false (by kernel_rfl) rfl (Sat.pNodeF false (by kernel_rfl) rfl (Sat.pNodeF false (by kernel_rfl) rfl (Sat.pNodeF false (by kernel_rfl) rfl (Sat.pNodeF false (by kernel_rfl) rfl
   (Sat.pNodeF false (by kernel_rfl) rfl (Sat.pNodeF false (by kernel_rfl) rfl (Sat.pNodeF false (by kernel_rfl) rfl
   (Sat.pRet (Res.mk (AV.bool Bool.false) [] []) (by kernel_rfl) (by grind [Stamp.may]))))))))))))))))))))))))) (fun _h3 => (Sat.pIfEF (s.L ≤ (5000 : Int)) (s.L ≤ (5000 : Int)) (by kernel_rfl) Iff.rfl _h3
   (Sat.pIfEF (s.L ≤ (5000 : Int)) (s.L ≤ (5000 : Int)) (by kernel_rfl) Iff.rfl _h3 (Sat.pIfEF (s.L ≤ (5000 : Int)) (s.L ≤ (5000 : Int)) (by kernel_rfl) Iff.rfl _h3 (Sat.pNodeF false (by kernel_rfl) rfl
   (Sat.pNodeF false (by kernel_rfl) rfl (Sat.pNodeF false (by kernel_rfl) rfl (Sat.pNodeF false (by kernel_rfl) rfl (Sat.pNodeF false (by kernel_rfl) rfl (Sat.pNodeF false (by kernel_rfl) rfl
   (Sat.pNodeF false (by kernel_rfl) rfl (Sat.pNodeF false (by kernel_rfl) rfl (Sat.pNodeF false (by kernel_rfl) rfl (Sat.pNodeF false (by kernel_rfl) rfl (Sat.pNodeF false (by kernel_rfl) rfl
   (Sat.pNodeF false (by kernel_rfl) rfl (Sat.pNodeF false (by kernel_rfl) rfl (Sat.pNodeF false (by kernel_rfl) rfl (Sat.pNodeF false (by kernel_rfl) rfl (Sat.pNodeF false (by kernel_rfl) rfl
   (Sat.pNodeF false (by kernel_rfl) rfl (Sat.pNodeF false (by kernel_rfl) rfl (Sat.pRet (Res.mk (AV.bool Bool.false) [] []) (by kernel_rfl) (by grind [Stamp.may]))))))))))))))))))))))))))))) (fun _h2 =>
   (Sat.pIfEF ((1 : Int) ≤ s.L) ((1 : Int) ≤ s.L) (by kernel_rfl) Iff.rfl _h2 (Sat.pIfEF ((1 : Int) ≤ s.L) ((1 : Int) ≤ s.L) (by kernel_rfl) Iff.rfl _h2
   (Sat.pIfEF ((1 : Int) ≤ s.L) ((1 : Int) ≤ s.L) (by kernel_rfl) Iff.rfl _h2 (Sat.pNodeF false (by kernel_rfl) rfl (Sat.pNodeF false (by kernel_rfl) rfl (Sat.pNodeF false (by kernel_rfl) rfl
   (Sat.pNodeF false (by kernel_rfl) rfl (Sat.pNodeF false (by kernel_rfl) rfl (Sat.pNodeF false (by kernel_rfl) rfl (Sat.pNodeF false (by kernel_rfl) rfl (Sat.pNodeF false (by kernel_rfl) rfl
   (Sat.pNodeF false (by kernel_rfl) rfl (Sat.pNodeF false (by kernel_rfl) rfl (Sat.pNodeF false (by kernel_rfl) rfl (Sat.pNodeF false (by kernel_rfl) rfl (Sat.pNodeF false (by kernel_rfl) rfl
   (Sat.pNodeF false (by kernel_rfl) rfl (Sat.pNodeF false (by kernel_rfl) rfl (Sat.pNodeF false (by kernel_rfl) rfl (Sat.pNodeF false (by kernel_rfl) rfl (Sat.pNodeF false (by kernel_rfl) rfl
   (Sat.pNodeF false (by kernel_rfl) rfl (Sat.pNodeF false (by kernel_rfl) rfl (Sat.pNodeF false (by kernel_rfl) rfl (Sat.pNodeF false (by kernel_rfl) rfl
   (Sat.pRet (Res.mk (AV.bool Bool.false) [] []) (by kernel_rfl) (by grind [Stamp.may])))))))))))))))))))))))))))))
theorem c125 (a b : Stamp) : X.call 125 [encStamp a, encStamp b] [] ⟨.int .i64 (a.cmp b), [], []⟩ := by
  refine spec_of ok Go.Proofs.Tryz.func125 ok125 ?_
  have again_l : Sat X 125 (loopD X.cfg 125 Go.Proofs.Tryz.f125 0 3 ⟨[(5, .ref (.head 5 0) 0 0), (6, .ref (.head 6 0) 0 0), (7, .int .i64 0)], [(.head 5 0, .box (.agg [.int .i64 a.L, .int .i64 a.R, .int .i64 a.N]) true), (.head 6 0, .box (.agg [.int .i64 b.L, .int .i64 b.R, .int .i64 b.N]) true)]⟩) (· = ⟨.int .i64 (a.cmp b), [], []⟩) := by
    refine Sat.pLoop 3 (St.mk [((5 : Nat), AV.ref (Site.head (5 : Nat) (0 : Nat)) (0 : Nat) (0 : Nat)), ((6 : Nat), AV.ref (Site.head (6 : Nat) (0 : Nat)) (0 : Nat) (0 : Nat)), ((7 : Nat), AV.int IntKind.i64 (0 : Int))] [(Site.head (5 : Nat) (0 : Nat), Blk.box (AV.agg [AV.int IntKind.i64 a.L, AV.int IntKind.i64 a.R, AV.int IntKind.i64 a.N]) Bool.true), (Site.head (6 : Nat) (0 : Nat), Blk.box (AV.agg [AV.int IntKind.i64 b.L, AV.int IntKind.i64 b.R, AV.int IntKind.i64 b.N]) Bool.true)]) (by kernel_rfl) (fun (k : Nat) => ⟨[(5, .ref (.head 5 0) 0 0), (6, .ref (.head 6 0) 0 0), (7, .int .i64 k)], [(.head 5 0, .box (.agg [.int .i64 a.L, .int .i64 a.R, .int .i64 a.N]) true), (.head 6 0, .box (.agg [.int .i64 b.L, .int .i64 b.R, .int .i64 b.N]) true)]⟩) (fun k => k ≤ 3 ∧ (0 < k → a.L = b.L) ∧ (1 < k → a.R = b.R) ∧ (2 < k → a.N = b.N)) (fun k => 3 - k) 0 rfl ?_ ?_
    · omega
    · intro k hk again
      refine (Sat.pIfE ((↑k : Int) < (3 : Int)) (k < (3 : Nat)) (by kernel_rfl) (by simp only [icLt]) (fun _h6 => (Sat.pFin3 ((↑k : Int)) (by kernel_rfl) (by omega) (fun _h7 =>
       (Sat.pFin3 ((↑k : Int)) (by kernel_rfl) (by omega) (fun _h8 => (Sat.pIf (a.L < b.L) (by kernel_rfl) (fun _h9 =>
       (Sat.pRet (Res.mk (AV.int IntKind.i64 (-1 : Int)) [] []) (by kernel_rfl) (by (clear again; grind [Stamp.cmp, icmp])))) (fun _h9 => (Sat.pFin3 ((↑k : Int)) (by kernel_rfl) (by omega) (fun _h10 =>
       (Sat.pFin3 ((↑k : Int)) (by kernel_rfl) (by omega) (fun _h11 => (Sat.pIf (b.L < a.L) (by kernel_rfl) (fun _h12 =>
       (Sat.pRet (Res.mk (AV.int IntKind.i64 (1 : Int)) [] []) (by kernel_rfl) (by (clear again; grind [Stamp.cmp, icmp])))) (fun _h12 =>
       (have _w13 : IntKind.i64.wrap ((↑k : Int) + (1 : Int)) = (↑k : Int) + (1 : Int) := wI64 (by omega) (by omega);
       (Sat.pAgainE (St.mk [((5 : Nat), AV.ref (Site.head (5 : Nat) (0 : Nat)) (0 : Nat) (0 : Nat)), ((6 : Nat), AV.ref (Site.head (6 : Nat) (0 : Nat)) (0 : Nat) (0 : Nat)), ((7 : Nat), AV.int IntKind.i64 (IntKind.i64.wrap ((↑k : Int) + (1 : Int))))] [(Site.head (5 : Nat) (0 : Nat), Blk.box (AV.agg [AV.int IntKind.i64 a.L, AV.int IntKind.i64 a.R, AV.int IntKind.i64 a.N]) Bool.true), (Site.head (6 : Nat) (0 : Nat), Blk.box (AV.agg [AV.int IntKind.i64 b.L, AV.int IntKind.i64 b.R, AV.int IntKind.i64 b.N]) Bool.true)]) (by kernel_rfl) (by simp [_w13]) (again (k + (1 : Nat)) (by omega) (by omega)))))))
       (fun _h14 => False.elim (by omega)) (fun _h15 => False.elim (by omega)))) (fun _h16 => False.elim (by omega)) (fun _h17 => False.elim (by omega)))))) (fun _h18 => False.elim (by omega))
       (fun _h19 => False.elim (by omega)))) (fun _h20 => (Sat.pFin3 ((↑k : Int)) (by kernel_rfl) (by omega) (fun _h21 => False.elim (by omega)) (fun _h22 => (Sat.pIf (a.R < b.R) (by kernel_rfl) (fun _h23 =>
       (Sat.pRet (Res.mk (AV.int IntKind.i64 (-1 : Int)) [] []) (by kernel_rfl) (by (clear again; grind [Stamp.cmp, icmp])))) (fun _h23 => (Sat.pFin3 ((↑k : Int)) (by kernel_rfl) (by omega)
       (fun _h24 => False.elim (by omega)) (fun _h25 => (Sat.pFin3 ((↑k : Int)) (by kernel_rfl) (by omega) (fun _h26 => False.elim (by omega)) (fun _h27 => (Sat.pIf (b.R < a.R) (by kernel_rfl) (fun _h28 =>
       (Sat.pRet (Res.mk (AV.int IntKind.i64 (1 : Int)) [] []) (by kernel_rfl) (by (clear again; grind [Stamp.cmp, icmp])))) (fun _h28 =>
       (have _w29 : IntKind.i64.wrap ((↑k : Int) + (1 : Int)) = (↑k : Int) + (1 : Int) := wI64 (by omega) (by omega);
       (Sat.pAgainE (St.mk [((5 : Nat), AV.ref (Site.head (5 : Nat) (0 : Nat)) (0 : Nat) (0 : Nat)), ((6 : Nat), AV.ref (Site.head (6 : Nat) (0 : Nat)) (0 : Nat) (0 : Nat)), ((7 : Nat), AV.int IntKind.i64 (IntKind.i64.wrap ((↑k : Int) + (1 : Int))))] [(Site.head (5 : Nat) (0 : Nat), Blk.box (AV.agg [AV.int IntKind.i64 a.L, AV.int IntKind.i64 a.R, AV.int IntKind.i64 a.N]) Bool.true), (Site.head (6 : Nat) (0 : Nat), Blk.box (AV.agg [AV.int IntKind.i64 b.L, AV.int IntKind.i64 b.R, AV.int IntKind.i64 b.N]) Bool.true)]) (by kernel_rfl) (by simp [_w29]) (again (k + (1 : Nat)) (by omega) (by omega)))))))
       (fun _h30 => False.elim (by omega)))) (fun _h31 => False.elim (by omega)))))) (fun _h32 => False.elim (by omega)))) (fun _h33 => (Sat.pFin3 ((↑k : Int)) (by kernel_rfl) (by omega)
       (fun _h34 => False.elim (by omega)) (fun _h35 => False.elim (by omega)) (fun _h36 => (Sat.pIf (a.N < b.N) (by kernel_rfl) (fun _h37 =>
       (Sat.pRet (Res.mk (AV.int IntKind.i64 (-1 : Int)) [] []) (by kernel_rfl) (by (clear again; grind [Stamp.cmp, icmp])))) (fun _h37 => (Sat.pFin3 ((↑k : Int)) (by kernel_rfl) (by omega)
       (fun _h38 => False.elim (by omega)) (fun _h39 => False.elim (by omega)) (fun _h40 => (Sat.pFin3 ((↑k : Int)) (by kernel_rfl) (by omega) (fun _h41 => False.elim (by omega))
       (fun _h42 => False.elim (by omega)) (fun _h43 => (Sat.pIf (b.N < a.N) (by kernel_rfl) (fun _h44 =>
       (Sat.pRet (Res.mk (AV.int IntKind.i64 (1 : Int)) [] []) (by kernel_rfl) (by (clear again; grind [Stamp.cmp, icmp])))) (fun _h44 =>
       (have _w45 : IntKind.i64.wrap ((↑k : Int) + (1 : Int)) = (↑k : Int) + (1 : Int) := wI64 (by omega) (by omega);
       (Sat.pAgainE (St.mk [((5 : Nat), AV.ref (Site.head (5 : Nat) (0 : Nat)) (0 : Nat) (0 : Nat)), ((6 : Nat), AV.ref (Site.head (6 : Nat) (0 : Nat)) (0 : Nat) (0 : Nat)), ((7 : Nat), AV.int IntKind.i64 (IntKind.i64.wrap ((↑k : Int) + (1 : Int))))] [(Site.head (5 : Nat) (0 : Nat), Blk.box (AV.agg [AV.int IntKind.i64 a.L, AV.int IntKind.i64 a.R, AV.int IntKind.i64 a.N]) Bool.true), (Site.head (6 : Nat) (0 : Nat), Blk.box (AV.agg [AV.int IntKind.i64 b.L, AV.int IntKind.i64 b.R, AV.int IntKind.i64 b.N]) Bool.true)]) (by kernel_rfl) (by simp [_w45]) (again (k + (1 : Nat)) (by omega) (by omega)))))))))))))))))
       (fun _h6 => (Sat.pRet (Res.mk (AV.int IntKind.i64 (0 : Int)) [] []) (by kernel_rfl) (by (clear again; grind [Stamp.cmp, icmp])))))
  refine (Sat.pAmb (by kernel_rfl)
   (Sat.pJoinE (L := loopD X.cfg (125 : FuncId) Proofs.Tryz.f125 (0 : Nat) (3 : Nat)) (St.mk [((5 : Nat), AV.ref (Site.head (5 : Nat) (0 : Nat)) (0 : Nat) (0 : Nat)), ((6 : Nat), AV.ref (Site.head (6 : Nat) (0 : Nat)) (0 : Nat) (0 : Nat)), ((7 : Nat), AV.int IntKind.i64 (0 : Int))] [(Site.head (5 : Nat) (0 : Nat), Blk.box (AV.agg [AV.int IntKind.i64 a.L, AV.int IntKind.i64 a.R, AV.int IntKind.i64 a.N]) Bool.true), (Site.head (6 : Nat) (0 : Nat), Blk.box (AV.agg [AV.int IntKind.i64 b.L, AV.int IntKind.i64 b.R, AV.int IntKind.i64 b.N]) Bool.true)]) (by kernel_rfl) rfl rfl (again_l))
   (Sat.pJoinE (L := loopD X.cfg (125 : FuncId) Proofs.Tryz.f125 (0 : Nat) (3 : Nat)) (St.mk [((5 : Nat), AV.ref (Site.head (5 : Nat) (0 : Nat)) (0 : Nat) (0 : Nat)), ((6 : Nat), AV.ref (Site.head (6 : Nat) (0 : Nat)) (0 : Nat) (0 : Nat)), ((7 : Nat), AV.int IntKind.i64 (0 : Int))] [(Site.head (5 : Nat) (0 : Nat), Blk.box (AV.agg [AV.int IntKind.i64 a.L, AV.int IntKind.i64 a.R, AV.int IntKind.i64 a.N]) Bool.true), (Site.head (6 : Nat) (0 : Nat), Blk.box (AV.agg [AV.int IntKind.i64 b.L, AV.int IntKind.i64 b.R, AV.int IntKind.i64 b.N]) Bool.true)]) (by kernel_rfl) rfl rfl (again_l)))
theorem c218 (l r n : Int) : X.call 218 [.int .i64 l, .int .i64 r, .int .i64 n] [] ⟨.tuple [encStamp (nextStamp l r n).1, .bool (nextStamp l r n).2], [], []⟩ := by
  refine spec_of ok Go.Proofs.Tryz.func218 ok218 ?_
  refine (Sat.pIf (l < (0 : Int)) (by kernel_rfl) (fun _h4 => (Sat.pIfET (l < (0 : Int)) (l < (0 : Int)) (by kernel_rfl) Iff.rfl _h4 (Sat.pIfET (l < (0 : Int)) (l < (0 : Int)) (by kernel_rfl) Iff.rfl _h4
   (Sat.pNodeT true (by kernel_rfl) rfl (Sat.pNodeT true (by kernel_rfl) rfl (Sat.pNodeT true (by kernel_rfl) rfl (Sat.pNodeT true (by kernel_rfl) rfl (Sat.pNodeT true (by kernel_rfl) rfl
   (Sat.pNodeT true (by kernel_rfl) rfl (Sat.pNodeT true (by kernel_rfl) rfl
   (Sat.pRet (Res.mk (AV.tuple [AV.agg [AV.int IntKind.i64 (0 : Int), AV.int IntKind.i64 (0 : Int), AV.int IntKind.i64 (0 : Int)], AV.bool Bool.false]) [] []) (by kernel_rfl) (by grind [nextStamp, encStamp]))))))))))))
   (fun _h4 => (Sat.pIfEF (l < (0 : Int)) (l < (0 : Int)) (by kernel_rfl) Iff.rfl _h4 (Sat.pIfEF (l < (0 : Int)) (l < (0 : Int)) (by kernel_rfl) Iff.rfl _h4 (Sat.pIf ((5000 : Int) ≤ l) (by kernel_rfl)
   (fun _h5 => (Sat.pIfET ((5000 : Int) ≤ l) ((5000 : Int) ≤ l) (by kernel_rfl) Iff.rfl _h5 (Sat.pIfET ((5000 : Int) ≤ l) ((5000 : Int) ≤ l) (by kernel_rfl) Iff.rfl _h5
   (Sat.pNodeT true (by kernel_rfl) rfl (Sat.pNodeT true (by kernel_rfl) rfl (Sat.pNodeT true (by kernel_rfl) rfl (Sat.pNodeT true (by kernel_rfl) rfl
   (Sat.pRet (Res.mk (AV.tuple [AV.agg [AV.int IntKind.i64 (0 : Int), AV.int IntKind.i64 (0 : Int), AV.int IntKind.i64 (0 : Int)], AV.bool Bool.false]) [] []) (by kernel_rfl) (by grind [nextStamp, encStamp])))))))))
   (fun _h5 => (Sat.pIfEF ((5000 : Int) ≤ l) ((5000 : Int) ≤ l) (by kernel_rfl) Iff.rfl _h5 (Sat.pIfEF ((5000 : Int) ≤ l) ((5000 : Int) ≤ l) (by kernel_rfl) Iff.rfl _h5
   (Sat.pIf (n < (0 : Int)) (by kernel_rfl) (fun _h6 => (Sat.pIfET (n < (0 : Int)) (n < (0 : Int)) (by kernel_rfl) Iff.rfl _h6 (Sat.pIfET (n < (0 : Int)) (n < (0 : Int)) (by kernel_rfl) Iff.rfl _h6
   (Sat.pNodeT true (by kernel_rfl) rfl
   (Sat.pRet (Res.mk (AV.tuple [AV.agg [AV.int IntKind.i64 (0 : Int), AV.int IntKind.i64 (0 : Int), AV.int IntKind.i64 (0 : Int)], AV.bool Bool.false]) [] []) (by kernel_rfl) (by grind [nextStamp, encStamp]))))))
   (fun _h6 => (Sat.pIfEF (n < (0 : Int)) (n < (0 : Int)) (by kernel_rfl) Iff.rfl _h6 (Sat.pIfEF (n < (0 : Int)) (n < (0 : Int)) (by kernel_rfl) Iff.rfl _h6 (Sat.pIf ((1000 : Int) ≤ n) (by kernel_rfl)
   (fun _h7 =>
   (Sat.pRet (Res.mk (AV.tuple [AV.agg [AV.int IntKind.i64 (0 : Int), AV.int IntKind.i64 (0 : Int), AV.int IntKind.i64 (0 : Int)], AV.bool Bool.false]) [] []) (by kernel_rfl) (by grind [nextStamp, encStamp])))
   (fun _h7 => (have _w8 : IntKind.i64.wrap (l + (1 : Int)) = l + (1 : Int) := wI64 (by omega) (by omega); (have _w9 : IntKind.i64.wrap (n + (1 : Int)) = n + (1 : Int) := wI64 (by omega) (by omega);
   (Sat.pCallE 110 ([AV.agg [AV.int IntKind.i64 (IntKind.i64.wrap (l + (1 : Int))), AV.int IntKind.i64 r, AV.int IntKind.i64 (IntKind.i64.wrap (n + (1 : Int)))]]) ([]) (by kernel_rfl) (by simp [encStamp, _w9, _w8]) rfl (@Go.Ab.Tryz.c110 (Stamp.mk (l + (1 : Int)) r (n + (1 : Int))))
   (Sat.pNodeN ((Stamp.mk (l + (1 : Int)) r (n + (1 : Int))).may) (by kernel_rfl) (fun _h10 =>
   (Sat.pRet (Res.mk (AV.tuple [AV.agg [AV.int IntKind.i64 (0 : Int), AV.int IntKind.i64 (0 : Int), AV.int IntKind.i64 (0 : Int)], AV.bool Bool.false]) [] []) (by kernel_rfl) (by grind [nextStamp, encStamp])))
   (fun _h10 =>
   (Sat.pRet (Res.mk (AV.tuple [AV.agg [AV.int IntKind.i64 (IntKind.i64.wrap (l + (1 : Int))), AV.int IntKind.i64 r, AV.int IntKind.i64 (IntKind.i64.wrap (n + (1 : Int)))], AV.bool Bool.true]) [] []) (by kernel_rfl) (by grind [nextStamp, encStamp])))))))))))))))))))))
theorem c159 (s : List UInt8) (most : Int) (hs : s.length ≤ 100000) : X.call 159 [.str s, .int .i64 most] [] ⟨.bool (s.all isLetter && decide ((s.length : Int) ≤ most)), [], []⟩ := by
  refine spec_of ok Go.Proofs.Tryz.func159 ok159 ?_
  refine ?_
  refine Sat.pLoop 2 (St.mk [((0 : Nat), AV.str s), ((1 : Nat), AV.int IntKind.i64 most), ((5 : Nat), AV.int IntKind.i64 (0 : Int))] []) (by kernel_rfl) (fun (k : Nat) => ⟨[(0, .str s), (1, .int .i64 most), (5, .int .i64 k)], []⟩) (fun k => k ≤ s.length ∧ (s.take k).all isLetter = true) (fun k => s.length - k) 0 rfl ?_ ?_
  · simp
  · intro k hk again
    refine (Sat.pIfE ((↑k : Int) < (↑s.length : Int)) (k < s.length) (by kernel_rfl) (by simp only [Int.ofNat_lt]) (fun _h7 => (Sat.pNodeT true (by kernel_rfl) rfl
     (Sat.pByteM (s) (k) (by kernel_rfl) (by assumption) (fun _x8 _hx9 => (have _u10 : _x8.toNat < (256 : Nat) := UInt8.toNat_lt _;
     (Sat.pIfE ((↑_x8.toNat : Int) < (97 : Int)) (_x8.toNat < (97 : Nat)) (by kernel_rfl) (by simp only [icLt]) (fun _h11 =>
     (Sat.pIfET ((↑_x8.toNat : Int) < (97 : Int)) (_x8.toNat < (97 : Nat)) (by kernel_rfl) (by simp only [icLt]) _h11
     (Sat.pIfET ((↑_x8.toNat : Int) < (97 : Int)) (_x8.toNat < (97 : Nat)) (by kernel_rfl) (by simp only [icLt]) _h11
     (Sat.pIfET ((↑_x8.toNat : Int) < (97 : Int)) (_x8.toNat < (97 : Nat)) (by kernel_rfl) (by simp only [icLt]) _h11
     (Sat.pIfET ((↑_x8.toNat : Int) < (97 : Int)) (_x8.toNat < (97 : Nat)) (by kernel_rfl) (by simp only [icLt]) _h11 (Sat.pNodeT true (by kernel_rfl) rfl
     (Sat.pRet (Res.mk (AV.bool Bool.false) [] []) (by kernel_rfl) (by (clear again; (rw [all_false (by assumption) (by simp [isLetter]; omega)]; rfl)))))))))) (fun _h11 =>
     (Sat.pIfEF ((↑_x8.toNat : Int) < (97 : Int)) (_x8.toNat < (97 : Nat)) (by kernel_rfl) (by simp only [icLt]) _h11
     (Sat.pIfEF ((↑_x8.toNat : Int) < (97 : Int)) (_x8.toNat < (97 : Nat)) (by kernel_rfl) (by simp only [icLt]) _h11 (Sat.pNodeT true (by kernel_rfl) rfl
     (Sat.pByteH (s) (k) (k) (_x8) (by kernel_rfl) rfl _hx9 (Sat.pIfEF ((↑_x8.toNat : Int) < (97 : Int)) (_x8.toNat < (97 : Nat)) (by kernel_rfl) (by simp only [icLt]) _h11
     (Sat.pIfEF ((↑_x8.toNat : Int) < (97 : Int)) (_x8.toNat < (97 : Nat)) (by kernel_rfl) (by simp only [icLt]) _h11
     (Sat.pIfE ((122 : Int) < (↑_x8.toNat : Int)) ((122 : Nat) < _x8.toNat) (by kernel_rfl) (by simp only [ciLt]) (fun _h12 =>
     (Sat.pRet (Res.mk (AV.bool Bool.false) [] []) (by kernel_rfl) (by (clear again; (rw [all_false (by assumption) (by simp [isLetter]; omega)]; rfl))))) (fun _h12 =>
     (have _w13 : IntKind.i64.wrap ((↑k : Int) + (1 : Int)) = (↑k : Int) + (1 : Int) := wI64 (by omega) (by omega);
     (Sat.pAgainE (St.mk [((0 : Nat), AV.str s), ((1 : Nat), AV.int IntKind.i64 most), ((5 : Nat), AV.int IntKind.i64 (IntKind.i64.wrap ((↑k : Int) + (1 : Int))))] []) (by kernel_rfl) (by simp [_w13]) (again (k + (1 : Nat)) (by (clear again; (rw [take_succ (by assumption), List.all_append]; simp_all [isLetter]; omega))) (by omega)))))))))))))))))))
     (fun _h7 => (Sat.pRet (Res.mk (AV.bool (decide ((↑s.length : Int) ≤ most))) [] []) (by kernel_rfl) (by (clear again; (rw [List.take_of_length_le (by omega)] at hk; simp_all; done))))))
end Go.Ab.Tryz
