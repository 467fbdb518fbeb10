/- Package cardamomref1, as plain Lean. -/
import Derived.Test.YtmppanboolejjaaGreatG3
import Derived.Test.YtmppanboolejjaaGreatAb
namespace Go.Ab.Tryz
open Go
set_option maxRecDepth 100000
set_option maxHeartbeats 4000000
theorem c108 (s : Stamp) : X.call 108 [encStamp s] [] ⟨.bool s.may,[],[]⟩ := by
  refine spec_of ok Go.Proofs.Tryz.func108 ok108 ?_
  refine (.i (1 ≤ s.L) (fun _h2 => .it _h2 (.it _h2 (.it _h2 (.i (s.L ≤ 5000) (fun _h3 => .it _h3 (.it _h3 (.it _h3 (.i (1 ≤ s.R) (fun _h4 => .it _h4 (.it _h4 (.it _h4 (.i (s.R ≤ 5) (fun _h5 => .it _h5
   (.it _h5 (.it _h5 (.i (1 ≤ s.N) (fun _h6 => .it _h6 (.it _h6 (.it _h6 (.i (s.N ≤ 1000) (fun _h7 => .it _h7 (.it _h7 (.it _h7 (.it _h7 (.it _h7 (.q (Res.mk
   (.bool (decide (s.N ≤ s.L))) [] []) (by grind [Stamp.may]))))))) (fun _h7 => .iF _h7 (.iF _h7 (.iF _h7 (.iF _h7 (.iF _h7 (.q (Res.mk (.bool false) [] []) (by grind [Stamp.may])))))))))))
   (fun _h6 => .iF _h6 (.iF _h6 (.iF _h6 (.F (.F (.F (.F (.F (.F (.q (Res.mk (.bool false) [] []) (by grind [Stamp.may]))))))))))))))) (fun _h5 => .iF _h5 (.iF _h5 (.iF _h5 (.F (.F (.F (.F (.F (.F (.F (.F
   (.F (.F (.q (Res.mk (.bool false) [] []) (by grind [Stamp.may]))))))))))))))))))) (fun _h4 => .iF _h4 (.iF _h4 (.iF _h4 (.F (.F (.F (.F (.F (.F (.F (.F (.F (.F (.F (.F (.F (.F (.q (Res.mk
   (.bool false) [] []) (by grind [Stamp.may]))))))))))))))))))))))) (fun _h3 => .iF _h3 (.iF _h3 (.iF _h3 (.F (.F (.F (.F (.F (.F (.F (.F (.F (.F (.F (.F (.F (.F (.F (.F (.F (.F (.q (Res.mk
   (.bool false) [] []) (by grind [Stamp.may]))))))))))))))))))))))))))) (fun _h2 => .iF _h2 (.iF _h2 (.iF _h2 (.F (.F (.F (.F (.F (.F (.F (.F (.F (.F (.F (.F (.F (.F (.F (.F (.F (.F (.F (.F (.F (.F
   (.q (Res.mk (.bool false) [] []) (by grind [Stamp.may]))))))))))))))))))))))))))))
theorem c32 (a b : Stamp) : X.call 32 [encStamp a,encStamp b] [] ⟨.int .i64 (a.cmp b),[],[]⟩ := by
  refine spec_of ok Go.Proofs.Tryz.func32 ok32 ?_
  have again_l : Sat X 32 (loopD X.cfg 32 Go.Proofs.Tryz.f32 0 3 ⟨[(5,.ref (.head 5 0) 0 0),(6,.ref (.head 6 0) 0 0),(7,.int .i64 0)],[(.head 5 0,.box (.agg [.int .i64 a.L,.int .i64 a.R,.int .i64 a.N]) true),(.head 6 0,.box (.agg [.int .i64 b.L,.int .i64 b.R,.int .i64 b.N]) true)]⟩) (· = ⟨.int .i64 (a.cmp b),[],[]⟩) := by
    refine Sat.pLoop 3 (St.mk [(5,.ref (.head 5 0) 0 0),(6,.ref (.head 6 0) 0 0),(7,.int .i64 0)] [(.head 5 0,.box (encStamp a) true),
     (.head 6 0,.box (encStamp b) true)]) (by kernel_rfl) (fun (k : Nat) => ⟨[(5,.ref (.head 5 0) 0 0),(6,.ref (.head 6 0) 0 0),(7,.int .i64 k)],[(.head 5 0,.box
     (.agg [.int .i64 a.L,.int .i64 a.R,.int .i64 a.N]) true),(.head 6 0,.box
     (.agg [.int .i64 b.L,.int .i64 b.R,.int .i64 b.N]) true)]⟩) (fun k => k ≤ 3 ∧ (0 < k → a.L = b.L) ∧ (1 < k → a.R = b.R) ∧ (2 < k → a.N = b.N)) (fun k => 3 - k) 0 rfl ?_ ?_
    · omega
    · intro k hk again
      refine (.k ((↑k : Int) < 3) (k < 3) (by simp only [icLt]) (fun _h6 => Sat.pFin3 ((↑k : Int)) (by kernel_rfl) (by omega) (fun _h7 => Sat.pFin3 ((↑k : Int)) (by kernel_rfl) (by omega)
       (fun _h8 => .i (a.L < b.L) (fun _h9 => .q (Res.mk (.int .i64 (-1 : Int)) [] []) (by (clear again; grind [Stamp.cmp,icmp]))) (fun _h9 => Sat.pFin3 ((↑k : Int)) (by kernel_rfl) (by omega)
       (fun _h10 => Sat.pFin3 ((↑k : Int)) (by kernel_rfl) (by omega) (fun _h11 => .i (b.L < a.L) (fun _h12 => .q (Res.mk (.int .i64 1) [] []) (by (clear again; grind [Stamp.cmp,icmp])))
       (fun _h12 => have _w13 := wI64' ((↑k : Int) + (1 : Int)); .A (St.mk [(5,.ref (.head 5 0) 0 0),(6,.ref (.head 6 0) 0 0),(7,.int .i64 (IntKind.i64.wrap ((↑k : Int) + 1)))] [(.head 5 0,.box
       (.agg [.int .i64 a.L,.int .i64 a.R,.int .i64 a.N]) true),(.head 6 0,.box
       (.agg [.int .i64 b.L,.int .i64 b.R,.int .i64 b.N]) true)]) (by simp [_w13]) (again (k + (1 : Nat)) (by omega) (by omega)))) (fun _h14 => False.elim (by omega)) (fun _h15 => False.elim (by omega)))
       (fun _h16 => False.elim (by omega)) (fun _h17 => False.elim (by omega)))) (fun _h18 => False.elim (by omega)) (fun _h19 => False.elim (by omega)))
       (fun _h20 => Sat.pFin3 ((↑k : Int)) (by kernel_rfl) (by omega) (fun _h21 => False.elim (by omega)) (fun _h22 => .i (a.R < b.R) (fun _h23 => .q (Res.mk
       (.int .i64 (-1 : Int)) [] []) (by (clear again; grind [Stamp.cmp,icmp]))) (fun _h23 => Sat.pFin3 ((↑k : Int)) (by kernel_rfl) (by omega) (fun _h24 => False.elim (by omega))
       (fun _h25 => Sat.pFin3 ((↑k : Int)) (by kernel_rfl) (by omega) (fun _h26 => False.elim (by omega)) (fun _h27 => .i (b.R < a.R) (fun _h28 => .q (Res.mk
       (.int .i64 1) [] []) (by (clear again; grind [Stamp.cmp,icmp]))) (fun _h28 => have _w29 := wI64' ((↑k : Int) + (1 : Int)); .A (St.mk [(5,.ref (.head 5 0) 0 0),(6,.ref
       (.head 6 0) 0 0),(7,.int .i64 (IntKind.i64.wrap ((↑k : Int) + 1)))] [(.head 5 0,.box (.agg [.int .i64 a.L,.int .i64 a.R,.int .i64 a.N]) true),(.head 6 0,.box
       (.agg [.int .i64 b.L,.int .i64 b.R,.int .i64 b.N]) true)]) (by simp [_w29]) (again (k + (1 : Nat)) (by omega) (by omega)))) (fun _h30 => False.elim (by omega))) (fun _h31 => False.elim (by omega))))
       (fun _h32 => False.elim (by omega))) (fun _h33 => Sat.pFin3 ((↑k : Int)) (by kernel_rfl) (by omega) (fun _h34 => False.elim (by omega)) (fun _h35 => False.elim (by omega)) (fun _h36 => .i (a.N < b.N)
       (fun _h37 => .q (Res.mk (.int .i64 (-1 : Int)) [] []) (by (clear again; grind [Stamp.cmp,icmp]))) (fun _h37 => Sat.pFin3 ((↑k : Int)) (by kernel_rfl) (by omega) (fun _h38 => False.elim (by omega))
       (fun _h39 => False.elim (by omega)) (fun _h40 => Sat.pFin3 ((↑k : Int)) (by kernel_rfl) (by omega) (fun _h41 => False.elim (by omega)) (fun _h42 => False.elim (by omega)) (fun _h43 => .i (b.N < a.N)
       (fun _h44 => .q (Res.mk (.int .i64 1) [] []) (by (clear again; grind [Stamp.cmp,icmp]))) (fun _h44 => have _w45 := wI64' ((↑k : Int) + (1 : Int)); .A (St.mk [(5,.ref (.head 5 0) 0 0),(6,.ref
       (.head 6 0) 0 0),(7,.int .i64 (IntKind.i64.wrap ((↑k : Int) + 1)))] [(.head 5 0,.box (.agg [.int .i64 a.L,.int .i64 a.R,.int .i64 a.N]) true),(.head 6 0,.box
       (.agg [.int .i64 b.L,.int .i64 b.R,.int .i64 b.N]) true)]) (by simp [_w45]) (again (k + (1 : Nat)) (by omega) (by omega))))))))) (fun _h6 => .q (Res.mk
       (.int .i64 0) [] []) (by (clear again; grind [Stamp.cmp,icmp]))))
  refine (.b (Sat.pJoinE (L := loopD X.cfg (32 : FuncId) Proofs.Tryz.f32 0 3) (St.mk [(5,.ref (.head 5 0) 0 0),(6,.ref (.head 6 0) 0 0),(7,.int .i64 0)] [(.head 5 0,.box (encStamp a) true),
   (.head 6 0,.box (encStamp b) true)]) (by kernel_rfl) rfl rfl (again_l)) (Sat.pJoinE (L := loopD X.cfg (32 : FuncId) Proofs.Tryz.f32 0 3) (St.mk [(5,.ref (.head 5 0) 0 0),(6,.ref
   (.head 6 0) 0 0),(7,.int .i64 0)] [(.head 5 0,.box (encStamp a) true),(.head 6 0,.box (encStamp b) true)]) (by kernel_rfl) rfl rfl (again_l)))
theorem c98 (l r n : Int) : X.call 98 [.int .i64 l,.int .i64 r,.int .i64 n] [] ⟨.tuple [encStamp (nextStamp l r n).1,.bool (nextStamp l r n).2],[],[]⟩ := by
  refine spec_of ok Go.Proofs.Tryz.func98 ok98 ?_
  refine (.i (l < 0) (fun _h4 => .it _h4 (.it _h4 (.T (.T (.T (.T (.T (.T (.T
   (.q (Res.mk (AV.tuple [.agg [.int .i64 0,.int .i64 0,.int .i64 0],.bool false]) [] []) (by grind [nextStamp,encStamp]))))))))))) (fun _h4 => .iF _h4 (.iF _h4 (.i (5000 ≤ l) (fun _h5 => .it _h5
   (.it _h5 (.T (.T (.T (.T (.q (Res.mk (AV.tuple [.agg [.int .i64 0,.int .i64 0,.int .i64 0],.bool false]) [] []) (by grind [nextStamp,encStamp])))))))) (fun _h5 => .iF _h5 (.iF _h5 (.i (n < 0)
   (fun _h6 => .it _h6 (.it _h6 (.T (.q (Res.mk (AV.tuple [.agg [.int .i64 0,.int .i64 0,.int .i64 0],.bool false]) [] []) (by grind [nextStamp,encStamp]))))) (fun _h6 => .iF _h6 (.iF _h6
   (.i (1000 ≤ n) (fun _h7 => .q (Res.mk (AV.tuple [.agg [.int .i64 0,.int .i64 0,.int .i64 0],.bool false]) [] []) (by grind [nextStamp,encStamp]))
   (fun _h7 => have _w8 := wI64' (l + (1 : Int)); have _w9 := wI64' (n + (1 : Int)); .C ([.agg [.int .i64 (IntKind.i64.wrap (l + 1)),.int .i64 r,.int .i64 (IntKind.i64.wrap (n + 1))]]) ([]) (by simp [encStamp,_w9,_w8]) rfl (@Tryz.c108 (Stamp.mk (l + (1 : Int)) r (n + (1 : Int))))
   (.m ((Stamp.mk (l + 1) r (n + 1)).may) (fun _h10 => .q (Res.mk (AV.tuple [.agg [.int .i64 0,.int .i64 0,.int .i64 0],.bool false]) [] []) (by grind [nextStamp,encStamp]))
   (fun _h10 => .q (Res.mk (AV.tuple [.agg [.int .i64 (IntKind.i64.wrap (l + 1)),.int .i64 r,.int .i64 (IntKind.i64.wrap (n + 1))],.bool true]) [] []) (by grind [nextStamp,encStamp]))))))))))))))
theorem c109 (s : List UInt8) (most : Int) (hs : s.length ≤ 100000) : X.call 109 [.str s,.int .i64 most] [] ⟨.bool (s.all isLetter && decide ((s.length : Int) ≤ most)),[],[]⟩ := by
  refine spec_of ok Go.Proofs.Tryz.func109 ok109 ?_
  refine ?_
  refine Sat.pLoop 2 (St.mk [(0,.str s),(1,.int .i64 most),(5,.int .i64 0)] []) (by kernel_rfl) (fun (k : Nat) => ⟨[(0,.str s),(1,.int .i64 most),(5,.int .i64 k)],[]⟩) (fun k => k ≤ s.length ∧ (s.take k).all isLetter = true) (fun k => s.length - k) 0 rfl ?_ ?_
  · simp
  · intro k hk again
    refine (.k ((↑k : Int) < (↑s.length : Int)) (k < s.length) (by simp only [Int.ofNat_lt]) (fun _h7 => .T (.bm s k ‹_›
     (fun _x8 _hx9 => have _u10 : _x8.toNat < (256 : Nat) := UInt8.toNat_lt _; .k ((↑_x8.toNat : Int) < 97) (_x8.toNat < 97) (by simp only [icLt])
     (fun _h11 => .et ((↑_x8.toNat : Int) < 97) (by simp only [icLt]) _h11 (.et ((↑_x8.toNat : Int) < 97) (by simp only [icLt]) _h11 (.et ((↑_x8.toNat : Int) < 97) (by simp only [icLt]) _h11
     (.et ((↑_x8.toNat : Int) < 97) (by simp only [icLt]) _h11 (.T (.q (Res.mk (.bool false) [] []) (by (clear again; (rw [all_false ‹_› (by simp [isLetter]; omega)]; rfl)))))))))
     (fun _h11 => .eF ((↑_x8.toNat : Int) < 97) (by simp only [icLt]) _h11 (.eF ((↑_x8.toNat : Int) < 97) (by simp only [icLt]) _h11 (.T (.bh _hx9 (.eF ((↑_x8.toNat : Int) < 97) (by simp only [icLt]) _h11
     (.eF ((↑_x8.toNat : Int) < 97) (by simp only [icLt]) _h11 (.k (122 < (↑_x8.toNat : Int)) (122 < _x8.toNat) (by simp only [ciLt]) (fun _h12 => .q (Res.mk
     (.bool false) [] []) (by (clear again; (rw [all_false ‹_› (by simp [isLetter]; omega)]; rfl))))
     (fun _h12 => have _w13 := wI64' ((↑k : Int) + (1 : Int)); .A (St.mk [(0,.str s),(1,.int .i64 most),(5,.int .i64 (IntKind.i64.wrap ((↑k : Int) + 1)))] []) (by simp [_w13]) (again (k + (1 : Nat)) (by (clear again; (rw [take_succ ‹_›,List.all_append]; simp_all [isLetter]; omega))) (by omega)))))))))))))
     (fun _h7 => .q (Res.mk (.bool (decide ((↑s.length : Int) ≤ most))) [] []) (by (clear again; (rw [List.take_of_length_le (by omega)] at hk; simp_all; done)))))
end Go.Ab.Tryz
