/- Package cardamomref1, as plain Lean. -/
import Derived.Test.YtodelhgblkhjgaaGreatDoorG3
import Derived.Test.YtodelhgblkhjgaaGreatDoorAb
namespace Go.Ab.Tryz
open Go
set_option maxRecDepth 100000
set_option maxHeartbeats 4000000
theorem c36 (s : Stamp) : X.call 36 [encStamp s] [] ⟨.bool s.may, [], []⟩ := by
  refine spec_of ok Go.Proofs.Tryz.func36 ok36 ?_
  refine (Sat.pIf ((1 : Int) ≤ s.L) (by kernel_rfl) (fun _h2 => (Sat.pIfET ((1 : Int) ≤ s.L) ((1 : Int) ≤ s.L) (by kernel_rfl) Iff.rfl _h2
   (Sat.pIfET ((1 : Int) ≤ s.L) ((1 : Int) ≤ s.L) (by kernel_rfl) Iff.rfl _h2 (Sat.pIfET ((1 : Int) ≤ s.L) ((1 : Int) ≤ s.L) (by kernel_rfl) Iff.rfl _h2 (Sat.pIf (s.L ≤ (5000 : Int)) (by kernel_rfl)
   (fun _h3 => (Sat.pIfET (s.L ≤ (5000 : Int)) (s.L ≤ (5000 : Int)) (by kernel_rfl) Iff.rfl _h3 (Sat.pIfET (s.L ≤ (5000 : Int)) (s.L ≤ (5000 : Int)) (by kernel_rfl) Iff.rfl _h3
   (Sat.pIfET (s.L ≤ (5000 : Int)) (s.L ≤ (5000 : Int)) (by kernel_rfl) Iff.rfl _h3 (Sat.pIf ((1 : Int) ≤ s.R) (by kernel_rfl) (fun _h4 =>
   (Sat.pIfET ((1 : Int) ≤ s.R) ((1 : Int) ≤ s.R) (by kernel_rfl) Iff.rfl _h4 (Sat.pIfET ((1 : Int) ≤ s.R) ((1 : Int) ≤ s.R) (by kernel_rfl) Iff.rfl _h4
   (Sat.pIfET ((1 : Int) ≤ s.R) ((1 : Int) ≤ s.R) (by kernel_rfl) Iff.rfl _h4 (Sat.pIf (s.R ≤ (5 : Int)) (by kernel_rfl) (fun _h5 =>
   (Sat.pIfET (s.R ≤ (5 : Int)) (s.R ≤ (5 : Int)) (by kernel_rfl) Iff.rfl _h5 (Sat.pIfET (s.R ≤ (5 : Int)) (s.R ≤ (5 : Int)) (by kernel_rfl) Iff.rfl _h5
   (Sat.pIfET (s.R ≤ (5 : Int)) (s.R ≤ (5 : Int)) (by kernel_rfl) Iff.rfl _h5 (Sat.pIf ((1 : Int) ≤ s.N) (by kernel_rfl) (fun _h6 =>
   (Sat.pIfET ((1 : Int) ≤ s.N) ((1 : Int) ≤ s.N) (by kernel_rfl) Iff.rfl _h6 (Sat.pIfET ((1 : Int) ≤ s.N) ((1 : Int) ≤ s.N) (by kernel_rfl) Iff.rfl _h6
   (Sat.pIfET ((1 : Int) ≤ s.N) ((1 : Int) ≤ s.N) (by kernel_rfl) Iff.rfl _h6 (Sat.pIf (s.N ≤ (1000 : Int)) (by kernel_rfl) (fun _h7 =>
   (Sat.pIfET (s.N ≤ (1000 : Int)) (s.N ≤ (1000 : Int)) (by kernel_rfl) Iff.rfl _h7 (Sat.pIfET (s.N ≤ (1000 : Int)) (s.N ≤ (1000 : Int)) (by kernel_rfl) Iff.rfl _h7
   (Sat.pIfET (s.N ≤ (1000 : Int)) (s.N ≤ (1000 : Int)) (by kernel_rfl) Iff.rfl _h7 (Sat.pIfET (s.N ≤ (1000 : Int)) (s.N ≤ (1000 : Int)) (by kernel_rfl) Iff.rfl _h7
   (Sat.pIfET (s.N ≤ (1000 : Int)) (s.N ≤ (1000 : Int)) (by kernel_rfl) Iff.rfl _h7 (Sat.pRet (Res.mk (AV.bool (decide (s.N ≤ s.L))) [] []) (by kernel_rfl) (by grind [Stamp.may])))))))) (fun _h7 =>
   (Sat.pIfEF (s.N ≤ (1000 : Int)) (s.N ≤ (1000 : Int)) (by kernel_rfl) Iff.rfl _h7 (Sat.pIfEF (s.N ≤ (1000 : Int)) (s.N ≤ (1000 : Int)) (by kernel_rfl) Iff.rfl _h7
   (Sat.pIfEF (s.N ≤ (1000 : Int)) (s.N ≤ (1000 : Int)) (by kernel_rfl) Iff.rfl _h7 (Sat.pIfEF (s.N ≤ (1000 : Int)) (s.N ≤ (1000 : Int)) (by kernel_rfl) Iff.rfl _h7
   (Sat.pIfEF (s.N ≤ (1000 : Int)) (s.N ≤ (1000 : Int)) (by kernel_rfl) Iff.rfl _h7 (Sat.pRet (Res.mk (AV.bool Bool.false) [] []) (by kernel_rfl) (by grind [Stamp.may]))))))))))))) (fun _h6 =>
   (Sat.pIfEF ((1 : Int) ≤ s.N) ((1 : Int) ≤ s.N) (by kernel_rfl) Iff.rfl _h6 (Sat.pIfEF ((1 : Int) ≤ s.N) ((1 : Int) ≤ s.N) (by kernel_rfl) Iff.rfl _h6
   (Sat.pIfEF ((1 : Int) ≤ s.N) ((1 : Int) ≤ s.N) (by kernel_rfl) Iff.rfl _h6 (Sat.pNodeF false (by kernel_rfl) rfl (Sat.pNodeF false (by kernel_rfl) rfl (Sat.pNodeF false (by kernel_rfl) rfl
   (Sat.pNodeF false (by kernel_rfl) rfl (Sat.pNodeF false (by kernel_rfl) rfl (Sat.pNodeF false (by kernel_rfl) rfl
   (Sat.pRet (Res.mk (AV.bool Bool.false) [] []) (by kernel_rfl) (by grind [Stamp.may]))))))))))))))))) (fun _h5 => (Sat.pIfEF (s.R ≤ (5 : Int)) (s.R ≤ (5 : Int)) (by kernel_rfl) Iff.rfl _h5
   (Sat.pIfEF (s.R ≤ (5 : Int)) (s.R ≤ (5 : Int)) (by kernel_rfl) Iff.rfl _h5 (Sat.pIfEF (s.R ≤ (5 : Int)) (s.R ≤ (5 : Int)) (by kernel_rfl) Iff.rfl _h5 (Sat.pNodeF false (by kernel_rfl) rfl
   (Sat.pNodeF false (by kernel_rfl) rfl (Sat.pNodeF false (by kernel_rfl) rfl (Sat.pNodeF false (by kernel_rfl) rfl (Sat.pNodeF false (by kernel_rfl) rfl (Sat.pNodeF false (by kernel_rfl) rfl
   (Sat.pNodeF false (by kernel_rfl) rfl (Sat.pNodeF false (by kernel_rfl) rfl (Sat.pNodeF false (by kernel_rfl) rfl (Sat.pNodeF false (by kernel_rfl) rfl
   (Sat.pRet (Res.mk (AV.bool Bool.false) [] []) (by kernel_rfl) (by grind [Stamp.may]))))))))))))))))))))) (fun _h4 => (Sat.pIfEF ((1 : Int) ≤ s.R) ((1 : Int) ≤ s.R) (by kernel_rfl) Iff.rfl _h4
   (Sat.pIfEF ((1 : Int) ≤ s.R) ((1 : Int) ≤ s.R) (by kernel_rfl) Iff.rfl _h4 (Sat.pIfEF ((1 : Int) ≤ s.R) ((1 : Int) ≤ s.R) (by kernel_rfl) Iff.rfl _h4 (Sat.pNodeF false (by kernel_rfl) rfl
   (Sat.pNodeF false (by kernel_rfl) rfl (Sat.pNodeF false (by kernel_rfl) rfl (Sat.pNodeF false (by kernel_rfl) rfl (Sat.pNodeF false (by kernel_rfl) rfl (Sat.pNodeF false (by kernel_rfl) rfl
   (Sat.pNodeF false (by kernel_rfl) rfl (Sat.pNodeF false (by kernel_rfl) rfl (Sat.pNodeF false (by kernel_rfl) rfl (Sat.pNodeF false (by kernel_rfl) rfl (Sat.pNodeF false (by kernel_rfl) rfl
   (Sat.pNodeF false (by kernel_rfl) rfl (Sat.pNodeF false (by kernel_rfl) rfl (Sat.pNodeF false (by kernel_rfl) rfl
   (Sat.pRet (Res.mk (AV.bool Bool.false) [] []) (by kernel_rfl) (by grind [Stamp.may]))))))))))))))))))))))))) (fun _h3 => (Sat.pIfEF (s.L ≤ (5000 : Int)) (s.L ≤ (5000 : Int)) (by kernel_rfl) Iff.rfl _h3
   (Sat.pIfEF (s.L ≤ (5000 : Int)) (s.L ≤ (5000 : Int)) (by kernel_rfl) Iff.rfl _h3 (Sat.pIfEF (s.L ≤ (5000 : Int)) (s.L ≤ (5000 : Int)) (by kernel_rfl) Iff.rfl _h3 (Sat.pNodeF false (by kernel_rfl) rfl
   (Sat.pNodeF false (by kernel_rfl) rfl (Sat.pNodeF false (by kernel_rfl) rfl (Sat.pNodeF false (by kernel_rfl) rfl (Sat.pNodeF false (by kernel_rfl) rfl (Sat.pNodeF false (by kernel_rfl) rfl
   (Sat.pNodeF false (by kernel_rfl) rfl (Sat.pNodeF false (by kernel_rfl) rfl (Sat.pNodeF false (by kernel_rfl) rfl (Sat.pNodeF false (by kernel_rfl) rfl (Sat.pNodeF false (by kernel_rfl) rfl
   (Sat.pNodeF false (by kernel_rfl) rfl (Sat.pNodeF false (by kernel_rfl) rfl (Sat.pNodeF false (by kernel_rfl) rfl (Sat.pNodeF false (by kernel_rfl) rfl (Sat.pNodeF false (by kernel_rfl) rfl
   (Sat.pNodeF false (by kernel_rfl) rfl (Sat.pNodeF false (by kernel_rfl) rfl (Sat.pRet (Res.mk (AV.bool Bool.false) [] []) (by kernel_rfl) (by grind [Stamp.may]))))))))))))))))))))))))))))) (fun _h2 =>
   (Sat.pIfEF ((1 : Int) ≤ s.L) ((1 : Int) ≤ s.L) (by kernel_rfl) Iff.rfl _h2 (Sat.pIfEF ((1 : Int) ≤ s.L) ((1 : Int) ≤ s.L) (by kernel_rfl) Iff.rfl _h2
   (Sat.pIfEF ((1 : Int) ≤ s.L) ((1 : Int) ≤ s.L) (by kernel_rfl) Iff.rfl _h2 (Sat.pNodeF false (by kernel_rfl) rfl (Sat.pNodeF false (by kernel_rfl) rfl (Sat.pNodeF false (by kernel_rfl) rfl
   (Sat.pNodeF false (by kernel_rfl) rfl (Sat.pNodeF false (by kernel_rfl) rfl (Sat.pNodeF false (by kernel_rfl) rfl (Sat.pNodeF false (by kernel_rfl) rfl (Sat.pNodeF false (by kernel_rfl) rfl
   (Sat.pNodeF false (by kernel_rfl) rfl (Sat.pNodeF false (by kernel_rfl) rfl (Sat.pNodeF false (by kernel_rfl) rfl (Sat.pNodeF false (by kernel_rfl) rfl (Sat.pNodeF false (by kernel_rfl) rfl
   (Sat.pNodeF false (by kernel_rfl) rfl (Sat.pNodeF false (by kernel_rfl) rfl (Sat.pNodeF false (by kernel_rfl) rfl (Sat.pNodeF false (by kernel_rfl) rfl (Sat.pNodeF false (by kernel_rfl) rfl
   (Sat.pNodeF false (by kernel_rfl) rfl (Sat.pNodeF false (by kernel_rfl) rfl (Sat.pNodeF false (by kernel_rfl) rfl (Sat.pNodeF false (by kernel_rfl) rfl
   (Sat.pRet (Res.mk (AV.bool Bool.false) [] []) (by kernel_rfl) (by grind [Stamp.may])))))))))))))))))))))))))))))
theorem c37 (s : List UInt8) (most : Int) (hs : s.length ≤ 100000) : X.call 37 [.str s, .int .i64 most] [] ⟨.bool (s.all isLetter && decide ((s.length : Int) ≤ most)), [], []⟩ := by
  refine spec_of ok Go.Proofs.Tryz.func37 ok37 ?_
  refine ?_
  refine Sat.pLoop 2 (St.mk [((0 : Nat), AV.str s), ((1 : Nat), AV.int IntKind.i64 most), ((5 : Nat), AV.int IntKind.i64 (0 : Int))] []) (by kernel_rfl) (fun (k : Nat) => ⟨[(0, .str s), (1, .int .i64 most), (5, .int .i64 k)], []⟩) (fun k => k ≤ s.length ∧ (s.take k).all isLetter = true) (fun k => s.length - k) 0 rfl ?_ ?_
  · simp
  · intro k hk again
    refine (Sat.pIfE ((↑k : Int) < (↑s.length : Int)) (k < s.length) (by kernel_rfl) (by simp only [Int.ofNat_lt]) (fun _h7 => (Sat.pNodeT true (by kernel_rfl) rfl
     (Sat.pByteM (s) (k) (by kernel_rfl) (by assumption) (fun _x8 _hx9 => (have _u10 : _x8.toNat < (256 : Nat) := UInt8.toNat_lt _;
     (Sat.pIfE ((↑_x8.toNat : Int) < (97 : Int)) (_x8.toNat < (97 : Nat)) (by kernel_rfl) (by simp only [icLt]) (fun _h11 =>
     (Sat.pIfET ((↑_x8.toNat : Int) < (97 : Int)) (_x8.toNat < (97 : Nat)) (by kernel_rfl) (by simp only [icLt]) _h11
     (Sat.pIfET ((↑_x8.toNat : Int) < (97 : Int)) (_x8.toNat < (97 : Nat)) (by kernel_rfl) (by simp only [icLt]) _h11
     (Sat.pIfET ((↑_x8.toNat : Int) < (97 : Int)) (_x8.toNat < (97 : Nat)) (by kernel_rfl) (by simp only [icLt]) _h11
     (Sat.pIfET ((↑_x8.toNat : Int) < (97 : Int)) (_x8.toNat < (97 : Nat)) (by kernel_rfl) (by simp only [icLt]) _h11 (Sat.pNodeT true (by kernel_rfl) rfl
     (Sat.pRet (Res.mk (AV.bool Bool.false) [] []) (by kernel_rfl) (by (clear again; (rw [all_false (by assumption) (by simp [isLetter]; omega)]; rfl)))))))))) (fun _h11 =>
     (Sat.pIfEF ((↑_x8.toNat : Int) < (97 : Int)) (_x8.toNat < (97 : Nat)) (by kernel_rfl) (by simp only [icLt]) _h11
     (Sat.pIfEF ((↑_x8.toNat : Int) < (97 : Int)) (_x8.toNat < (97 : Nat)) (by kernel_rfl) (by simp only [icLt]) _h11 (Sat.pNodeT true (by kernel_rfl) rfl
     (Sat.pByteH (s) (k) (k) (_x8) (by kernel_rfl) rfl _hx9 (Sat.pIfEF ((↑_x8.toNat : Int) < (97 : Int)) (_x8.toNat < (97 : Nat)) (by kernel_rfl) (by simp only [icLt]) _h11
     (Sat.pIfEF ((↑_x8.toNat : Int) < (97 : Int)) (_x8.toNat < (97 : Nat)) (by kernel_rfl) (by simp only [icLt]) _h11
     (Sat.pIfE ((122 : Int) < (↑_x8.toNat : Int)) ((122 : Nat) < _x8.toNat) (by kernel_rfl) (by simp only [ciLt]) (fun _h12 =>
     (Sat.pRet (Res.mk (AV.bool Bool.false) [] []) (by kernel_rfl) (by (clear again; (rw [all_false (by assumption) (by simp [isLetter]; omega)]; rfl))))) (fun _h12 =>
     (have _w13 : IntKind.i64.wrap ((↑k : Int) + (1 : Int)) = (↑k : Int) + (1 : Int) := wI64 (by omega) (by omega);
     (Sat.pAgainE (St.mk [((0 : Nat), AV.str s), ((1 : Nat), AV.int IntKind.i64 most), ((5 : Nat), AV.int IntKind.i64 (IntKind.i64.wrap ((↑k : Int) + (1 : Int))))] []) (by kernel_rfl) (by simp [_w13]) (again (k + (1 : Nat)) (by (clear again; (rw [take_succ (by assumption), List.all_append]; simp_all [isLetter]; omega))) (by omega)))))))))))))))))))
     (fun _h7 => (Sat.pRet (Res.mk (AV.bool (decide ((↑s.length : Int) ≤ most))) [] []) (by kernel_rfl) (by (clear again; (rw [List.take_of_length_le (by omega)] at hk; simp_all; done))))))
end Go.Ab.Tryz
