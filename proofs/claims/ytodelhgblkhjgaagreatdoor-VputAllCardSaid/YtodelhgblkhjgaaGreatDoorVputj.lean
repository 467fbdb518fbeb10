/- Package vput: bytes that are no version's. -/
import Derived.Test.YtodelhgblkhjgaaGreatDoorVputi
namespace Go.Ab.Tryz
open Go
set_option maxRecDepth 100000
set_option maxHeartbeats 4000000
def whats : List (List UInt8) := [[116, 104, 105, 110, 103], [116, 105, 109, 101], [114, 101, 112, 108, 105, 99, 97], [110, 117, 109, 98, 101, 114], [101, 110, 100], [97, 116, 116, 114, 105, 98, 117, 116, 101, 115], [107, 101, 121], [118, 97, 108, 117, 101], [116, 97, 103], [98, 111, 100, 121], [105, 116]]
theorem c28 (b : List UInt8) (w s : List UInt8) (k : Int) : X.call 28 [.ref (.inc 0) 0 0, .str w] [.box (.agg [.tree (b.map encB), .int .i64 k, .iface 67 (.agg [.iface 51 (.agg [.str s])])]) true] ⟨.int .i64 0, [.box (.agg [.tree (b.map encB), .int .i64 k, .iface 67 (.agg [.iface 51 (.agg [.str s])])]) true], []⟩ := by
  refine spec_of ok Go.Proofs.Tryz.func28 ok28 ?_
  refine (Sat.pNodeT true (by kernel_rfl) rfl
   (Sat.pRet (Res.mk (AV.int IntKind.i64 (0 : Int)) [Blk.box (AV.agg [AV.tree (List.map encB b), AV.int IntKind.i64 k, AV.iface (67 : TypeId) (AV.agg [AV.iface (51 : TypeId) (AV.agg [AV.str s])])]) Bool.true] []) (by kernel_rfl) rfl))
theorem c29 (b : List UInt8) (w s : List UInt8) (k : Int) : X.call 29 [.ref (.inc 0) 0 0, .str w] [.box (.agg [.tree (b.map encB), .int .i64 k, .iface 67 (.agg [.iface 51 (.agg [.str s])])]) true] ⟨.str [], [.box (.agg [.tree (b.map encB), .int .i64 k, .iface 67 (.agg [.iface 51 (.agg [.str s])])]) true], []⟩ := by
  refine spec_of ok Go.Proofs.Tryz.func29 ok29 ?_
  refine (Sat.pNodeT true (by kernel_rfl) rfl
   (Sat.pRet (Res.mk (AV.str []) [Blk.box (AV.agg [AV.tree (List.map encB b), AV.int IntKind.i64 k, AV.iface (67 : TypeId) (AV.agg [AV.iface (51 : TypeId) (AV.agg [AV.str s])])]) Bool.true] []) (by kernel_rfl) rfl))
theorem version_no (b : List UInt8) (hb : b.length ≤ 10000) (hno : ∀ v rest, v.may = true → b ≠ putVers [] v ++ rest) : ∃ p : Version × Nat × List UInt8, X.call 17 [.ref (.inc 0) 0 0] [.box (.agg [.tree (b.map encB), .int .i64 0, .nili]) true] ⟨encVersion p.1, [.box (.agg [.tree (b.map encB), .int .i64 p.2.1, encErr (some p.2.2)]) true], []⟩ ∧ p.2.2 ∈ whats ∧ p.2.1 ≤ b.length := by
  have hbl : b.length ≤ 100000 := by omega
  have again_f : ∀ (I L R N d : Int) (e : Bool) (k : Nat) (hk : k ≤ b.length) (s : List UInt8) (hz : s ∈ whats) (n : Int) (hn : n ≤ 9) (l : List Attr) (hl : (l.length : Int) + n ≤ 9), 0 ≤ n → SatE X 17 (loopD X.cfg 17 Go.Proofs.Tryz.f17 1 6 ⟨[(0, .ref (.inc 0) 0 0), (2, .ref (.head 2 0) 0 0), (3, .int .i64 d), (4, .int .i64 n)], [(.inc 0, .box (.agg [.tree (b.map encB), .int .i64 k, .iface 67 (.agg [.iface 51 (.agg [.str s])])]) true), (.head 2 0, .box (.agg [.int .i64 I, .int .i64 L, .int .i64 R, .int .i64 N, .bool e, .sref (.head 2 1) 0 l.length, .str [], .str []]) true), (.head 2 1, .row 2 (l.map encAttr) true true)]⟩) (fun r => ∃ p : Version × Nat × List UInt8, r = ⟨encVersion p.1, [.box (.agg [.tree (b.map encB), .int .i64 p.2.1, encErr (some p.2.2)]) true], []⟩ ∧ p.2.2 ∈ whats ∧ p.2.1 ≤ b.length) := by
    intro I L R N d e k hk s hz n hn l hl hn0
    refine SatE.pLoop 6 (St.mk [((0 : Nat), AV.ref (Site.inc (0 : Nat)) (0 : Nat) (0 : Nat)), ((2 : Nat), AV.ref (Site.head (2 : Nat) (0 : Nat)) (0 : Nat) (0 : Nat)), ((3 : Nat), AV.int IntKind.i64 d), ((4 : Nat), AV.int IntKind.i64 n)] [(Site.inc (0 : Nat), Blk.box (AV.agg [AV.tree (List.map encB b), AV.int IntKind.i64 (↑k : Int), AV.iface (67 : TypeId) (AV.agg [AV.iface (51 : TypeId) (AV.agg [AV.str s])])]) Bool.true), (Site.head (2 : Nat) (0 : Nat), Blk.box (AV.agg [AV.int IntKind.i64 I, AV.int IntKind.i64 L, AV.int IntKind.i64 R, AV.int IntKind.i64 N, AV.bool e, AV.sref (Site.head (2 : Nat) (1 : Nat)) (0 : Nat) l.length, AV.str [], AV.str []]) Bool.true), (Site.head (2 : Nat) (1 : Nat), Blk.row (2 : Nat) (List.map encAttr l) Bool.true Bool.true)]) (by kernel_rfl) (fun (p : Int × List Attr) => ⟨[(0, .ref (.inc 0) 0 0), (2, .ref (.head 2 0) 0 0), (3, .int .i64 d), (4, .int .i64 p.1)], [(.inc 0, .box (.agg [.tree (b.map encB), .int .i64 k, .iface 67 (.agg [.iface 51 (.agg [.str s])])]) true), (.head 2 0, .box (.agg [.int .i64 I, .int .i64 L, .int .i64 R, .int .i64 N, .bool e, .sref (.head 2 1) 0 p.2.length, .str [], .str []]) true), (.head 2 1, .row 2 (p.2.map encAttr) true true)]⟩) (fun p => 0 ≤ p.1 ∧ p.1 ≤ 9 ∧ (p.2.length : Int) + p.1 ≤ 9) (fun p => p.1.toNat) (n, l) rfl ?_ ?_
    · exact ⟨hn0, hn, hl⟩
    · rintro ⟨m, l2⟩ ⟨i0, i1, i2⟩ again
      simp only at i0 i1 i2
      refine (SatE.pIf ((0 : Int) < m) (by kernel_rfl) (fun _h26 =>
       (SatE.pCallE 28 ([AV.ref (Site.inc (0 : Nat)) (0 : Nat) (0 : Nat), AV.str [(107 : UInt8), (101 : UInt8), (121 : UInt8)]]) ([Blk.box (AV.agg [AV.tree (List.map encB b), AV.int IntKind.i64 (↑k : Int), AV.iface (67 : TypeId) (AV.agg [AV.iface (51 : TypeId) (AV.agg [AV.str s])])]) Bool.true]) (by kernel_rfl) rfl rfl (@Go.Ab.Tryz.c28 (b) ([(107 : UInt8), (101 : UInt8), (121 : UInt8)]) (s) ((↑k : Int)))
       (SatE.pCallE 28 ([AV.ref (Site.inc (0 : Nat)) (0 : Nat) (0 : Nat), AV.str [(118 : UInt8), (97 : UInt8), (108 : UInt8), (117 : UInt8), (101 : UInt8)]]) ([Blk.box (AV.agg [AV.tree (List.map encB b), AV.int IntKind.i64 (↑k : Int), AV.iface (67 : TypeId) (AV.agg [AV.iface (51 : TypeId) (AV.agg [AV.str s])])]) Bool.true]) (by kernel_rfl) rfl rfl (@Go.Ab.Tryz.c28 (b) ([(118 : UInt8), (97 : UInt8), (108 : UInt8), (117 : UInt8), (101 : UInt8)]) (s) ((↑k : Int)))
       (SatE.pIf ((l2.length + (1 : Nat)) * (16 : Nat) ≤ (140737488355328 : Nat)) (by kernel_rfl) (fun _h27 =>
       (SatE.pIfE (l2.length = (List.map encAttr l2).length) (True) (by kernel_rfl) (by simp only [List.length_map]) (fun _h28 =>
       (have _w29 : IntKind.i64.wrap (m - (1 : Int)) = m - (1 : Int) := wI64 (by omega) (by omega);
       (SatE.pAgainE (St.mk [((0 : Nat), AV.ref (Site.inc (0 : Nat)) (0 : Nat) (0 : Nat)), ((2 : Nat), AV.ref (Site.head (2 : Nat) (0 : Nat)) (0 : Nat) (0 : Nat)), ((3 : Nat), AV.int IntKind.i64 d), ((4 : Nat), AV.int IntKind.i64 (IntKind.i64.wrap (m - (1 : Int))))] [(Site.inc (0 : Nat), Blk.box (AV.agg [AV.tree (List.map encB b), AV.int IntKind.i64 (↑k : Int), AV.iface (67 : TypeId) (AV.agg [AV.iface (51 : TypeId) (AV.agg [AV.str s])])]) Bool.true), (Site.head (2 : Nat) (0 : Nat), Blk.box (AV.agg [AV.int IntKind.i64 I, AV.int IntKind.i64 L, AV.int IntKind.i64 R, AV.int IntKind.i64 N, AV.bool e, AV.sref (Site.head (2 : Nat) (1 : Nat)) (0 : Nat) (l2.length + (1 : Nat)), AV.str [], AV.str []]) Bool.true), (Site.head (2 : Nat) (1 : Nat), Blk.row (2 : Nat) (List.map encAttr l2 ++ [AV.agg [AV.int IntKind.i64 (0 : Int), AV.int IntKind.i64 (0 : Int)]]) Bool.true Bool.true)]) (by kernel_rfl) (by simp [encAttr, _w29]) (again ((m - (1 : Int), l2 ++ [Attr.mk (0 : Int) (0 : Int)])) ⟨(by show (0 : Int) ≤ m - (1 : Int); omega), ⟨(by show m - (1 : Int) ≤ (9 : Int); omega), (by show (↑(l2 ++ [Attr.mk (0 : Int) (0 : Int)]).length : Int) + (m - (1 : Int)) ≤ (9 : Int); (clear again; (simp; omega)))⟩⟩ (by show (m - (1 : Int)).toNat < m.toNat; omega)))))
       (fun _h28 => (_h28 trivial).elim))) (fun _h27 => False.elim (by omega)))))) (fun _h26 =>
       (SatE.pCallE 29 ([AV.ref (Site.inc (0 : Nat)) (0 : Nat) (0 : Nat), AV.str [(116 : UInt8), (97 : UInt8), (103 : UInt8)]]) ([Blk.box (AV.agg [AV.tree (List.map encB b), AV.int IntKind.i64 (↑k : Int), AV.iface (67 : TypeId) (AV.agg [AV.iface (51 : TypeId) (AV.agg [AV.str s])])]) Bool.true]) (by kernel_rfl) rfl rfl (@Go.Ab.Tryz.c29 (b) ([(116 : UInt8), (97 : UInt8), (103 : UInt8)]) (s) ((↑k : Int)))
       (SatE.pCallE 29 ([AV.ref (Site.inc (0 : Nat)) (0 : Nat) (0 : Nat), AV.str [(98 : UInt8), (111 : UInt8), (100 : UInt8), (121 : UInt8)]]) ([Blk.box (AV.agg [AV.tree (List.map encB b), AV.int IntKind.i64 (↑k : Int), AV.iface (67 : TypeId) (AV.agg [AV.iface (51 : TypeId) (AV.agg [AV.str s])])]) Bool.true]) (by kernel_rfl) rfl rfl (@Go.Ab.Tryz.c29 (b) ([(98 : UInt8), (111 : UInt8), (100 : UInt8), (121 : UInt8)]) (s) ((↑k : Int)))
       (SatE.pNodeF false (by kernel_rfl) rfl (SatE.pNodeF false (by kernel_rfl) rfl (SatE.pNodeF false (by kernel_rfl) rfl (SatE.pNodeF false (by kernel_rfl) rfl (SatE.pNodeF false (by kernel_rfl) rfl
       (SatE.pNodeF false (by kernel_rfl) rfl (have _w30 : List.take l2.length (List.map encAttr l2) = List.map encAttr l2 := List.take_of_length_le (by simp);
       (SatE.pRet (Res.mk (AV.agg [AV.int IntKind.i64 I, AV.int IntKind.i64 L, AV.int IntKind.i64 R, AV.int IntKind.i64 N, AV.bool e, AV.tree (List.take l2.length (List.map encAttr l2)), AV.str [], AV.str []]) [Blk.box (AV.agg [AV.tree (List.map encB b), AV.int IntKind.i64 (↑k : Int), AV.iface (67 : TypeId) (AV.agg [AV.iface (51 : TypeId) (AV.agg [AV.str s])])]) Bool.true] []) (by kernel_rfl) ?_))))))))))))
      exact ⟨(⟨I, ⟨L, R, N⟩, e, l2, [], []⟩, k, s), by simp [encVersion, encErr, List.take_of_length_le], hz, hk⟩
  obtain ⟨⟨v1, a1, o1⟩, c1, s1, l1, f1, m1, q1⟩ := num_ex b [116, 104, 105, 110, 103] hbl 0 (by omega) none
  simp only at c1 s1 l1 f1 m1 q1
  rw [show encErr none = .nili from rfl] at c1
  cases o1 with
  | some s =>
    have hz : s ∈ whats := by rcases f1 with h | h <;> cases h <;> decide
    clear f1 s1
    rw [show encErr (some s) = .iface 67 (.agg [.iface 51 (.agg [.str s])]) from rfl] at c1
    have hv := q1 (by simp)
    subst hv
    refine spec_ex ok Go.Proofs.Tryz.func17 ok17 ?_
    refine
     (SatE.pCallE 28 ([AV.ref (Site.inc (0 : Nat)) (0 : Nat) (0 : Nat), AV.str [(116 : UInt8), (104 : UInt8), (105 : UInt8), (110 : UInt8), (103 : UInt8)]]) ([Blk.box (AV.agg [AV.tree (List.map encB b), AV.int IntKind.i64 (0 : Int), AV.nili]) Bool.true]) (by kernel_rfl) rfl rfl (@c1)
     (SatE.pCallE 28 ([AV.ref (Site.inc (0 : Nat)) (0 : Nat) (0 : Nat), AV.str [(116 : UInt8), (105 : UInt8), (109 : UInt8), (101 : UInt8)]]) ([Blk.box (AV.agg [AV.tree (List.map encB b), AV.int IntKind.i64 (↑a1 : Int), AV.iface (67 : TypeId) (AV.agg [AV.iface (51 : TypeId) (AV.agg [AV.str s])])]) Bool.true]) (by kernel_rfl) rfl rfl (@Go.Ab.Tryz.c28 (b) ([(116 : UInt8), (105 : UInt8), (109 : UInt8), (101 : UInt8)]) (s) ((↑a1 : Int)))
     (SatE.pCallE 28 ([AV.ref (Site.inc (0 : Nat)) (0 : Nat) (0 : Nat), AV.str [(114 : UInt8), (101 : UInt8), (112 : UInt8), (108 : UInt8), (105 : UInt8), (99 : UInt8), (97 : UInt8)]]) ([Blk.box (AV.agg [AV.tree (List.map encB b), AV.int IntKind.i64 (↑a1 : Int), AV.iface (67 : TypeId) (AV.agg [AV.iface (51 : TypeId) (AV.agg [AV.str s])])]) Bool.true]) (by kernel_rfl) rfl rfl (@Go.Ab.Tryz.c28 (b) ([(114 : UInt8), (101 : UInt8), (112 : UInt8), (108 : UInt8), (105 : UInt8), (99 : UInt8), (97 : UInt8)]) (s) ((↑a1 : Int)))
     (SatE.pCallE 28 ([AV.ref (Site.inc (0 : Nat)) (0 : Nat) (0 : Nat), AV.str [(110 : UInt8), (117 : UInt8), (109 : UInt8), (98 : UInt8), (101 : UInt8), (114 : UInt8)]]) ([Blk.box (AV.agg [AV.tree (List.map encB b), AV.int IntKind.i64 (↑a1 : Int), AV.iface (67 : TypeId) (AV.agg [AV.iface (51 : TypeId) (AV.agg [AV.str s])])]) Bool.true]) (by kernel_rfl) rfl rfl (@Go.Ab.Tryz.c28 (b) ([(110 : UInt8), (117 : UInt8), (109 : UInt8), (98 : UInt8), (101 : UInt8), (114 : UInt8)]) (s) ((↑a1 : Int)))
     (SatE.pCallE 28 ([AV.ref (Site.inc (0 : Nat)) (0 : Nat) (0 : Nat), AV.str [(101 : UInt8), (110 : UInt8), (100 : UInt8)]]) ([Blk.box (AV.agg [AV.tree (List.map encB b), AV.int IntKind.i64 (↑a1 : Int), AV.iface (67 : TypeId) (AV.agg [AV.iface (51 : TypeId) (AV.agg [AV.str s])])]) Bool.true]) (by kernel_rfl) rfl rfl (@Go.Ab.Tryz.c28 (b) ([(101 : UInt8), (110 : UInt8), (100 : UInt8)]) (s) ((↑a1 : Int)))
     (SatE.pCallE 28 ([AV.ref (Site.inc (0 : Nat)) (0 : Nat) (0 : Nat), AV.str [(97 : UInt8), (116 : UInt8), (116 : UInt8), (114 : UInt8), (105 : UInt8), (98 : UInt8), (117 : UInt8), (116 : UInt8), (101 : UInt8), (115 : UInt8)]]) ([Blk.box (AV.agg [AV.tree (List.map encB b), AV.int IntKind.i64 (↑a1 : Int), AV.iface (67 : TypeId) (AV.agg [AV.iface (51 : TypeId) (AV.agg [AV.str s])])]) Bool.true]) (by kernel_rfl) rfl rfl (@Go.Ab.Tryz.c28 (b) ([(97 : UInt8), (116 : UInt8), (116 : UInt8), (114 : UInt8), (105 : UInt8), (98 : UInt8), (117 : UInt8), (116 : UInt8), (101 : UInt8), (115 : UInt8)]) (s) ((↑a1 : Int)))
     (SatE.pJoinE (L := loopD X.cfg (17 : FuncId) Proofs.Tryz.f17 (1 : Nat) (6 : Nat)) (St.mk [((0 : Nat), AV.ref (Site.inc (0 : Nat)) (0 : Nat) (0 : Nat)), ((2 : Nat), AV.ref (Site.head (2 : Nat) (0 : Nat)) (0 : Nat) (0 : Nat)), ((3 : Nat), AV.int IntKind.i64 (0 : Int)), ((4 : Nat), AV.int IntKind.i64 (if (9 : Int) < (0 : Int) then (9 : Int) else (0 : Int)))] [(Site.inc (0 : Nat), Blk.box (AV.agg [AV.tree (List.map encB b), AV.int IntKind.i64 (↑a1 : Int), AV.iface (67 : TypeId) (AV.agg [AV.iface (51 : TypeId) (AV.agg [AV.str s])])]) Bool.true), (Site.head (2 : Nat) (0 : Nat), Blk.box (AV.agg [AV.int IntKind.i64 (0 : Int), AV.int IntKind.i64 (0 : Int), AV.int IntKind.i64 (0 : Int), AV.int IntKind.i64 (0 : Int), AV.bool (decide ((0 : Int) = (1 : Int))), AV.sref (Site.head (2 : Nat) (1 : Nat)) (0 : Nat) (0 : Nat), AV.str [], AV.str []]) Bool.true), (Site.head (2 : Nat) (1 : Nat), Blk.row (2 : Nat) [] Bool.true Bool.true)]) (by kernel_rfl) rfl rfl (again_f ((0 : Int)) ((0 : Int)) ((0 : Int)) ((0 : Int)) ((0 : Int)) (decide ((0 : Int) = (1 : Int))) (a1) (by assumption) (s) (by assumption) (if (9 : Int) < (0 : Int) then (9 : Int) else (0 : Int)) (by omega) ([]) (by (clear again_f c1; (simp; done))) (by omega)))))))))
  | none =>
    clear f1
    obtain ⟨⟨v2, a2, o2⟩, c2, s2, l2, f2, m2, q2⟩ := num_ex b [116, 105, 109, 101] hbl a1 l1 none
    simp only at c2 s2 l2 f2 m2 q2
    rw [show encErr none = .nili from rfl] at c2
    cases o2 with
    | some s =>
      have hz : s ∈ whats := by rcases f2 with h | h <;> cases h <;> decide
      clear f2 s2
      rw [show encErr (some s) = .iface 67 (.agg [.iface 51 (.agg [.str s])]) from rfl] at c2
      have hv := q2 (by simp)
      subst hv
      refine spec_ex ok Go.Proofs.Tryz.func17 ok17 ?_
      refine
       (SatE.pCallE 28 ([AV.ref (Site.inc (0 : Nat)) (0 : Nat) (0 : Nat), AV.str [(116 : UInt8), (104 : UInt8), (105 : UInt8), (110 : UInt8), (103 : UInt8)]]) ([Blk.box (AV.agg [AV.tree (List.map encB b), AV.int IntKind.i64 (0 : Int), AV.nili]) Bool.true]) (by kernel_rfl) rfl rfl (@c1)
       (SatE.pCallE 28 ([AV.ref (Site.inc (0 : Nat)) (0 : Nat) (0 : Nat), AV.str [(116 : UInt8), (105 : UInt8), (109 : UInt8), (101 : UInt8)]]) ([Blk.box (AV.agg [AV.tree (List.map encB b), AV.int IntKind.i64 (↑a1 : Int), encErr Option.none]) Bool.true]) (by kernel_rfl) rfl rfl (@c2)
       (SatE.pCallE 28 ([AV.ref (Site.inc (0 : Nat)) (0 : Nat) (0 : Nat), AV.str [(114 : UInt8), (101 : UInt8), (112 : UInt8), (108 : UInt8), (105 : UInt8), (99 : UInt8), (97 : UInt8)]]) ([Blk.box (AV.agg [AV.tree (List.map encB b), AV.int IntKind.i64 (↑a2 : Int), AV.iface (67 : TypeId) (AV.agg [AV.iface (51 : TypeId) (AV.agg [AV.str s])])]) Bool.true]) (by kernel_rfl) rfl rfl (@Go.Ab.Tryz.c28 (b) ([(114 : UInt8), (101 : UInt8), (112 : UInt8), (108 : UInt8), (105 : UInt8), (99 : UInt8), (97 : UInt8)]) (s) ((↑a2 : Int)))
       (SatE.pCallE 28 ([AV.ref (Site.inc (0 : Nat)) (0 : Nat) (0 : Nat), AV.str [(110 : UInt8), (117 : UInt8), (109 : UInt8), (98 : UInt8), (101 : UInt8), (114 : UInt8)]]) ([Blk.box (AV.agg [AV.tree (List.map encB b), AV.int IntKind.i64 (↑a2 : Int), AV.iface (67 : TypeId) (AV.agg [AV.iface (51 : TypeId) (AV.agg [AV.str s])])]) Bool.true]) (by kernel_rfl) rfl rfl (@Go.Ab.Tryz.c28 (b) ([(110 : UInt8), (117 : UInt8), (109 : UInt8), (98 : UInt8), (101 : UInt8), (114 : UInt8)]) (s) ((↑a2 : Int)))
       (SatE.pCallE 28 ([AV.ref (Site.inc (0 : Nat)) (0 : Nat) (0 : Nat), AV.str [(101 : UInt8), (110 : UInt8), (100 : UInt8)]]) ([Blk.box (AV.agg [AV.tree (List.map encB b), AV.int IntKind.i64 (↑a2 : Int), AV.iface (67 : TypeId) (AV.agg [AV.iface (51 : TypeId) (AV.agg [AV.str s])])]) Bool.true]) (by kernel_rfl) rfl rfl (@Go.Ab.Tryz.c28 (b) ([(101 : UInt8), (110 : UInt8), (100 : UInt8)]) (s) ((↑a2 : Int)))
       (SatE.pCallE 28 ([AV.ref (Site.inc (0 : Nat)) (0 : Nat) (0 : Nat), AV.str [(97 : UInt8), (116 : UInt8), (116 : UInt8), (114 : UInt8), (105 : UInt8), (98 : UInt8), (117 : UInt8), (116 : UInt8), (101 : UInt8), (115 : UInt8)]]) ([Blk.box (AV.agg [AV.tree (List.map encB b), AV.int IntKind.i64 (↑a2 : Int), AV.iface (67 : TypeId) (AV.agg [AV.iface (51 : TypeId) (AV.agg [AV.str s])])]) Bool.true]) (by kernel_rfl) rfl rfl (@Go.Ab.Tryz.c28 (b) ([(97 : UInt8), (116 : UInt8), (116 : UInt8), (114 : UInt8), (105 : UInt8), (98 : UInt8), (117 : UInt8), (116 : UInt8), (101 : UInt8), (115 : UInt8)]) (s) ((↑a2 : Int)))
       (SatE.pJoinE (L := loopD X.cfg (17 : FuncId) Proofs.Tryz.f17 (1 : Nat) (6 : Nat)) (St.mk [((0 : Nat), AV.ref (Site.inc (0 : Nat)) (0 : Nat) (0 : Nat)), ((2 : Nat), AV.ref (Site.head (2 : Nat) (0 : Nat)) (0 : Nat) (0 : Nat)), ((3 : Nat), AV.int IntKind.i64 (0 : Int)), ((4 : Nat), AV.int IntKind.i64 (if (9 : Int) < (0 : Int) then (9 : Int) else (0 : Int)))] [(Site.inc (0 : Nat), Blk.box (AV.agg [AV.tree (List.map encB b), AV.int IntKind.i64 (↑a2 : Int), AV.iface (67 : TypeId) (AV.agg [AV.iface (51 : TypeId) (AV.agg [AV.str s])])]) Bool.true), (Site.head (2 : Nat) (0 : Nat), Blk.box (AV.agg [AV.int IntKind.i64 (↑v1 : Int), AV.int IntKind.i64 (0 : Int), AV.int IntKind.i64 (0 : Int), AV.int IntKind.i64 (0 : Int), AV.bool (decide ((0 : Int) = (1 : Int))), AV.sref (Site.head (2 : Nat) (1 : Nat)) (0 : Nat) (0 : Nat), AV.str [], AV.str []]) Bool.true), (Site.head (2 : Nat) (1 : Nat), Blk.row (2 : Nat) [] Bool.true Bool.true)]) (by kernel_rfl) rfl rfl (again_f ((↑v1 : Int)) ((0 : Int)) ((0 : Int)) ((0 : Int)) ((0 : Int)) (decide ((0 : Int) = (1 : Int))) (a2) (by assumption) (s) (by assumption) (if (9 : Int) < (0 : Int) then (9 : Int) else (0 : Int)) (by omega) ([]) (by (clear again_f c1 c2; (simp; done))) (by omega)))))))))
    | none =>
      clear f2
      obtain ⟨⟨v3, a3, o3⟩, c3, s3, l3, f3, m3, q3⟩ := num_ex b [114, 101, 112, 108, 105, 99, 97] hbl a2 l2 none
      simp only at c3 s3 l3 f3 m3 q3
      rw [show encErr none = .nili from rfl] at c3
      cases o3 with
      | some s =>
        have hz : s ∈ whats := by rcases f3 with h | h <;> cases h <;> decide
        clear f3 s3
        rw [show encErr (some s) = .iface 67 (.agg [.iface 51 (.agg [.str s])]) from rfl] at c3
        have hv := q3 (by simp)
        subst hv
        refine spec_ex ok Go.Proofs.Tryz.func17 ok17 ?_
        refine
         (SatE.pCallE 28 ([AV.ref (Site.inc (0 : Nat)) (0 : Nat) (0 : Nat), AV.str [(116 : UInt8), (104 : UInt8), (105 : UInt8), (110 : UInt8), (103 : UInt8)]]) ([Blk.box (AV.agg [AV.tree (List.map encB b), AV.int IntKind.i64 (0 : Int), AV.nili]) Bool.true]) (by kernel_rfl) rfl rfl (@c1)
         (SatE.pCallE 28 ([AV.ref (Site.inc (0 : Nat)) (0 : Nat) (0 : Nat), AV.str [(116 : UInt8), (105 : UInt8), (109 : UInt8), (101 : UInt8)]]) ([Blk.box (AV.agg [AV.tree (List.map encB b), AV.int IntKind.i64 (↑a1 : Int), encErr Option.none]) Bool.true]) (by kernel_rfl) rfl rfl (@c2)
         (SatE.pCallE 28 ([AV.ref (Site.inc (0 : Nat)) (0 : Nat) (0 : Nat), AV.str [(114 : UInt8), (101 : UInt8), (112 : UInt8), (108 : UInt8), (105 : UInt8), (99 : UInt8), (97 : UInt8)]]) ([Blk.box (AV.agg [AV.tree (List.map encB b), AV.int IntKind.i64 (↑a2 : Int), encErr Option.none]) Bool.true]) (by kernel_rfl) rfl rfl (@c3)
         (SatE.pCallE 28 ([AV.ref (Site.inc (0 : Nat)) (0 : Nat) (0 : Nat), AV.str [(110 : UInt8), (117 : UInt8), (109 : UInt8), (98 : UInt8), (101 : UInt8), (114 : UInt8)]]) ([Blk.box (AV.agg [AV.tree (List.map encB b), AV.int IntKind.i64 (↑a3 : Int), AV.iface (67 : TypeId) (AV.agg [AV.iface (51 : TypeId) (AV.agg [AV.str s])])]) Bool.true]) (by kernel_rfl) rfl rfl (@Go.Ab.Tryz.c28 (b) ([(110 : UInt8), (117 : UInt8), (109 : UInt8), (98 : UInt8), (101 : UInt8), (114 : UInt8)]) (s) ((↑a3 : Int)))
         (SatE.pCallE 28 ([AV.ref (Site.inc (0 : Nat)) (0 : Nat) (0 : Nat), AV.str [(101 : UInt8), (110 : UInt8), (100 : UInt8)]]) ([Blk.box (AV.agg [AV.tree (List.map encB b), AV.int IntKind.i64 (↑a3 : Int), AV.iface (67 : TypeId) (AV.agg [AV.iface (51 : TypeId) (AV.agg [AV.str s])])]) Bool.true]) (by kernel_rfl) rfl rfl (@Go.Ab.Tryz.c28 (b) ([(101 : UInt8), (110 : UInt8), (100 : UInt8)]) (s) ((↑a3 : Int)))
         (SatE.pCallE 28 ([AV.ref (Site.inc (0 : Nat)) (0 : Nat) (0 : Nat), AV.str [(97 : UInt8), (116 : UInt8), (116 : UInt8), (114 : UInt8), (105 : UInt8), (98 : UInt8), (117 : UInt8), (116 : UInt8), (101 : UInt8), (115 : UInt8)]]) ([Blk.box (AV.agg [AV.tree (List.map encB b), AV.int IntKind.i64 (↑a3 : Int), AV.iface (67 : TypeId) (AV.agg [AV.iface (51 : TypeId) (AV.agg [AV.str s])])]) Bool.true]) (by kernel_rfl) rfl rfl (@Go.Ab.Tryz.c28 (b) ([(97 : UInt8), (116 : UInt8), (116 : UInt8), (114 : UInt8), (105 : UInt8), (98 : UInt8), (117 : UInt8), (116 : UInt8), (101 : UInt8), (115 : UInt8)]) (s) ((↑a3 : Int)))
         (SatE.pJoinE (L := loopD X.cfg (17 : FuncId) Proofs.Tryz.f17 (1 : Nat) (6 : Nat)) (St.mk [((0 : Nat), AV.ref (Site.inc (0 : Nat)) (0 : Nat) (0 : Nat)), ((2 : Nat), AV.ref (Site.head (2 : Nat) (0 : Nat)) (0 : Nat) (0 : Nat)), ((3 : Nat), AV.int IntKind.i64 (0 : Int)), ((4 : Nat), AV.int IntKind.i64 (if (9 : Int) < (0 : Int) then (9 : Int) else (0 : Int)))] [(Site.inc (0 : Nat), Blk.box (AV.agg [AV.tree (List.map encB b), AV.int IntKind.i64 (↑a3 : Int), AV.iface (67 : TypeId) (AV.agg [AV.iface (51 : TypeId) (AV.agg [AV.str s])])]) Bool.true), (Site.head (2 : Nat) (0 : Nat), Blk.box (AV.agg [AV.int IntKind.i64 (↑v1 : Int), AV.int IntKind.i64 (↑v2 : Int), AV.int IntKind.i64 (0 : Int), AV.int IntKind.i64 (0 : Int), AV.bool (decide ((0 : Int) = (1 : Int))), AV.sref (Site.head (2 : Nat) (1 : Nat)) (0 : Nat) (0 : Nat), AV.str [], AV.str []]) Bool.true), (Site.head (2 : Nat) (1 : Nat), Blk.row (2 : Nat) [] Bool.true Bool.true)]) (by kernel_rfl) rfl rfl (again_f ((↑v1 : Int)) ((↑v2 : Int)) ((0 : Int)) ((0 : Int)) ((0 : Int)) (decide ((0 : Int) = (1 : Int))) (a3) (by assumption) (s) (by assumption) (if (9 : Int) < (0 : Int) then (9 : Int) else (0 : Int)) (by omega) ([]) (by (clear again_f c1 c2 c3; (simp; done))) (by omega)))))))))
      | none =>
        clear f3
        obtain ⟨⟨v4, a4, o4⟩, c4, s4, l4, f4, m4, q4⟩ := num_ex b [110, 117, 109, 98, 101, 114] hbl a3 l3 none
        simp only at c4 s4 l4 f4 m4 q4
        rw [show encErr none = .nili from rfl] at c4
        cases o4 with
        | some s =>
          have hz : s ∈ whats := by rcases f4 with h | h <;> cases h <;> decide
          clear f4 s4
          rw [show encErr (some s) = .iface 67 (.agg [.iface 51 (.agg [.str s])]) from rfl] at c4
          have hv := q4 (by simp)
          subst hv
          refine spec_ex ok Go.Proofs.Tryz.func17 ok17 ?_
          refine
           (SatE.pCallE 28 ([AV.ref (Site.inc (0 : Nat)) (0 : Nat) (0 : Nat), AV.str [(116 : UInt8), (104 : UInt8), (105 : UInt8), (110 : UInt8), (103 : UInt8)]]) ([Blk.box (AV.agg [AV.tree (List.map encB b), AV.int IntKind.i64 (0 : Int), AV.nili]) Bool.true]) (by kernel_rfl) rfl rfl (@c1)
           (SatE.pCallE 28 ([AV.ref (Site.inc (0 : Nat)) (0 : Nat) (0 : Nat), AV.str [(116 : UInt8), (105 : UInt8), (109 : UInt8), (101 : UInt8)]]) ([Blk.box (AV.agg [AV.tree (List.map encB b), AV.int IntKind.i64 (↑a1 : Int), encErr Option.none]) Bool.true]) (by kernel_rfl) rfl rfl (@c2)
           (SatE.pCallE 28 ([AV.ref (Site.inc (0 : Nat)) (0 : Nat) (0 : Nat), AV.str [(114 : UInt8), (101 : UInt8), (112 : UInt8), (108 : UInt8), (105 : UInt8), (99 : UInt8), (97 : UInt8)]]) ([Blk.box (AV.agg [AV.tree (List.map encB b), AV.int IntKind.i64 (↑a2 : Int), encErr Option.none]) Bool.true]) (by kernel_rfl) rfl rfl (@c3)
           (SatE.pCallE 28 ([AV.ref (Site.inc (0 : Nat)) (0 : Nat) (0 : Nat), AV.str [(110 : UInt8), (117 : UInt8), (109 : UInt8), (98 : UInt8), (101 : UInt8), (114 : UInt8)]]) ([Blk.box (AV.agg [AV.tree (List.map encB b), AV.int IntKind.i64 (↑a3 : Int), encErr Option.none]) Bool.true]) (by kernel_rfl) rfl rfl (@c4)
           (SatE.pCallE 28 ([AV.ref (Site.inc (0 : Nat)) (0 : Nat) (0 : Nat), AV.str [(101 : UInt8), (110 : UInt8), (100 : UInt8)]]) ([Blk.box (AV.agg [AV.tree (List.map encB b), AV.int IntKind.i64 (↑a4 : Int), AV.iface (67 : TypeId) (AV.agg [AV.iface (51 : TypeId) (AV.agg [AV.str s])])]) Bool.true]) (by kernel_rfl) rfl rfl (@Go.Ab.Tryz.c28 (b) ([(101 : UInt8), (110 : UInt8), (100 : UInt8)]) (s) ((↑a4 : Int)))
           (SatE.pCallE 28 ([AV.ref (Site.inc (0 : Nat)) (0 : Nat) (0 : Nat), AV.str [(97 : UInt8), (116 : UInt8), (116 : UInt8), (114 : UInt8), (105 : UInt8), (98 : UInt8), (117 : UInt8), (116 : UInt8), (101 : UInt8), (115 : UInt8)]]) ([Blk.box (AV.agg [AV.tree (List.map encB b), AV.int IntKind.i64 (↑a4 : Int), AV.iface (67 : TypeId) (AV.agg [AV.iface (51 : TypeId) (AV.agg [AV.str s])])]) Bool.true]) (by kernel_rfl) rfl rfl (@Go.Ab.Tryz.c28 (b) ([(97 : UInt8), (116 : UInt8), (116 : UInt8), (114 : UInt8), (105 : UInt8), (98 : UInt8), (117 : UInt8), (116 : UInt8), (101 : UInt8), (115 : UInt8)]) (s) ((↑a4 : Int)))
           (SatE.pJoinE (L := loopD X.cfg (17 : FuncId) Proofs.Tryz.f17 (1 : Nat) (6 : Nat)) (St.mk [((0 : Nat), AV.ref (Site.inc (0 : Nat)) (0 : Nat) (0 : Nat)), ((2 : Nat), AV.ref (Site.head (2 : Nat) (0 : Nat)) (0 : Nat) (0 : Nat)), ((3 : Nat), AV.int IntKind.i64 (0 : Int)), ((4 : Nat), AV.int IntKind.i64 (if (9 : Int) < (0 : Int) then (9 : Int) else (0 : Int)))] [(Site.inc (0 : Nat), Blk.box (AV.agg [AV.tree (List.map encB b), AV.int IntKind.i64 (↑a4 : Int), AV.iface (67 : TypeId) (AV.agg [AV.iface (51 : TypeId) (AV.agg [AV.str s])])]) Bool.true), (Site.head (2 : Nat) (0 : Nat), Blk.box (AV.agg [AV.int IntKind.i64 (↑v1 : Int), AV.int IntKind.i64 (↑v2 : Int), AV.int IntKind.i64 (↑v3 : Int), AV.int IntKind.i64 (0 : Int), AV.bool (decide ((0 : Int) = (1 : Int))), AV.sref (Site.head (2 : Nat) (1 : Nat)) (0 : Nat) (0 : Nat), AV.str [], AV.str []]) Bool.true), (Site.head (2 : Nat) (1 : Nat), Blk.row (2 : Nat) [] Bool.true Bool.true)]) (by kernel_rfl) rfl rfl (again_f ((↑v1 : Int)) ((↑v2 : Int)) ((↑v3 : Int)) ((0 : Int)) ((0 : Int)) (decide ((0 : Int) = (1 : Int))) (a4) (by assumption) (s) (by assumption) (if (9 : Int) < (0 : Int) then (9 : Int) else (0 : Int)) (by omega) ([]) (by (clear again_f c1 c2 c3 c4; (simp; done))) (by omega)))))))))
        | none =>
          clear f4
          obtain ⟨⟨v5, a5, o5⟩, c5, s5, l5, f5, m5, q5⟩ := num_ex b [101, 110, 100] hbl a4 l4 none
          simp only at c5 s5 l5 f5 m5 q5
          rw [show encErr none = .nili from rfl] at c5
          cases o5 with
          | some s =>
            have hz : s ∈ whats := by rcases f5 with h | h <;> cases h <;> decide
            clear f5 s5
            rw [show encErr (some s) = .iface 67 (.agg [.iface 51 (.agg [.str s])]) from rfl] at c5
            have hv := q5 (by simp)
            subst hv
            refine spec_ex ok Go.Proofs.Tryz.func17 ok17 ?_
            refine
             (SatE.pCallE 28 ([AV.ref (Site.inc (0 : Nat)) (0 : Nat) (0 : Nat), AV.str [(116 : UInt8), (104 : UInt8), (105 : UInt8), (110 : UInt8), (103 : UInt8)]]) ([Blk.box (AV.agg [AV.tree (List.map encB b), AV.int IntKind.i64 (0 : Int), AV.nili]) Bool.true]) (by kernel_rfl) rfl rfl (@c1)
             (SatE.pCallE 28 ([AV.ref (Site.inc (0 : Nat)) (0 : Nat) (0 : Nat), AV.str [(116 : UInt8), (105 : UInt8), (109 : UInt8), (101 : UInt8)]]) ([Blk.box (AV.agg [AV.tree (List.map encB b), AV.int IntKind.i64 (↑a1 : Int), encErr Option.none]) Bool.true]) (by kernel_rfl) rfl rfl (@c2)
             (SatE.pCallE 28 ([AV.ref (Site.inc (0 : Nat)) (0 : Nat) (0 : Nat), AV.str [(114 : UInt8), (101 : UInt8), (112 : UInt8), (108 : UInt8), (105 : UInt8), (99 : UInt8), (97 : UInt8)]]) ([Blk.box (AV.agg [AV.tree (List.map encB b), AV.int IntKind.i64 (↑a2 : Int), encErr Option.none]) Bool.true]) (by kernel_rfl) rfl rfl (@c3)
             (SatE.pCallE 28 ([AV.ref (Site.inc (0 : Nat)) (0 : Nat) (0 : Nat), AV.str [(110 : UInt8), (117 : UInt8), (109 : UInt8), (98 : UInt8), (101 : UInt8), (114 : UInt8)]]) ([Blk.box (AV.agg [AV.tree (List.map encB b), AV.int IntKind.i64 (↑a3 : Int), encErr Option.none]) Bool.true]) (by kernel_rfl) rfl rfl (@c4)
             (SatE.pCallE 28 ([AV.ref (Site.inc (0 : Nat)) (0 : Nat) (0 : Nat), AV.str [(101 : UInt8), (110 : UInt8), (100 : UInt8)]]) ([Blk.box (AV.agg [AV.tree (List.map encB b), AV.int IntKind.i64 (↑a4 : Int), encErr Option.none]) Bool.true]) (by kernel_rfl) rfl rfl (@c5)
             (SatE.pCallE 28 ([AV.ref (Site.inc (0 : Nat)) (0 : Nat) (0 : Nat), AV.str [(97 : UInt8), (116 : UInt8), (116 : UInt8), (114 : UInt8), (105 : UInt8), (98 : UInt8), (117 : UInt8), (116 : UInt8), (101 : UInt8), (115 : UInt8)]]) ([Blk.box (AV.agg [AV.tree (List.map encB b), AV.int IntKind.i64 (↑a5 : Int), AV.iface (67 : TypeId) (AV.agg [AV.iface (51 : TypeId) (AV.agg [AV.str s])])]) Bool.true]) (by kernel_rfl) rfl rfl (@Go.Ab.Tryz.c28 (b) ([(97 : UInt8), (116 : UInt8), (116 : UInt8), (114 : UInt8), (105 : UInt8), (98 : UInt8), (117 : UInt8), (116 : UInt8), (101 : UInt8), (115 : UInt8)]) (s) ((↑a5 : Int)))
             (SatE.pJoinE (L := loopD X.cfg (17 : FuncId) Proofs.Tryz.f17 (1 : Nat) (6 : Nat)) (St.mk [((0 : Nat), AV.ref (Site.inc (0 : Nat)) (0 : Nat) (0 : Nat)), ((2 : Nat), AV.ref (Site.head (2 : Nat) (0 : Nat)) (0 : Nat) (0 : Nat)), ((3 : Nat), AV.int IntKind.i64 (0 : Int)), ((4 : Nat), AV.int IntKind.i64 (if (9 : Int) < (0 : Int) then (9 : Int) else (0 : Int)))] [(Site.inc (0 : Nat), Blk.box (AV.agg [AV.tree (List.map encB b), AV.int IntKind.i64 (↑a5 : Int), AV.iface (67 : TypeId) (AV.agg [AV.iface (51 : TypeId) (AV.agg [AV.str s])])]) Bool.true), (Site.head (2 : Nat) (0 : Nat), Blk.box (AV.agg [AV.int IntKind.i64 (↑v1 : Int), AV.int IntKind.i64 (↑v2 : Int), AV.int IntKind.i64 (↑v3 : Int), AV.int IntKind.i64 (↑v4 : Int), AV.bool (decide ((0 : Int) = (1 : Int))), AV.sref (Site.head (2 : Nat) (1 : Nat)) (0 : Nat) (0 : Nat), AV.str [], AV.str []]) Bool.true), (Site.head (2 : Nat) (1 : Nat), Blk.row (2 : Nat) [] Bool.true Bool.true)]) (by kernel_rfl) rfl rfl (again_f ((↑v1 : Int)) ((↑v2 : Int)) ((↑v3 : Int)) ((↑v4 : Int)) ((0 : Int)) (decide ((0 : Int) = (1 : Int))) (a5) (by assumption) (s) (by assumption) (if (9 : Int) < (0 : Int) then (9 : Int) else (0 : Int)) (by omega) ([]) (by (clear again_f c1 c2 c3 c4 c5; (simp; done))) (by omega)))))))))
          | none =>
            clear f5
            obtain ⟨⟨v6, a6, o6⟩, c6, s6, l6, f6, m6, q6⟩ := num_ex b [97, 116, 116, 114, 105, 98, 117, 116, 101, 115] hbl a5 l5 none
            simp only at c6 s6 l6 f6 m6 q6
            rw [show encErr none = .nili from rfl] at c6
            cases o6 with
            | some s =>
              have hz : s ∈ whats := by rcases f6 with h | h <;> cases h <;> decide
              clear f6 s6
              rw [show encErr (some s) = .iface 67 (.agg [.iface 51 (.agg [.str s])]) from rfl] at c6
              have hv := q6 (by simp)
              subst hv
              refine spec_ex ok Go.Proofs.Tryz.func17 ok17 ?_
              refine
               (SatE.pCallE 28 ([AV.ref (Site.inc (0 : Nat)) (0 : Nat) (0 : Nat), AV.str [(116 : UInt8), (104 : UInt8), (105 : UInt8), (110 : UInt8), (103 : UInt8)]]) ([Blk.box (AV.agg [AV.tree (List.map encB b), AV.int IntKind.i64 (0 : Int), AV.nili]) Bool.true]) (by kernel_rfl) rfl rfl (@c1)
               (SatE.pCallE 28 ([AV.ref (Site.inc (0 : Nat)) (0 : Nat) (0 : Nat), AV.str [(116 : UInt8), (105 : UInt8), (109 : UInt8), (101 : UInt8)]]) ([Blk.box (AV.agg [AV.tree (List.map encB b), AV.int IntKind.i64 (↑a1 : Int), encErr Option.none]) Bool.true]) (by kernel_rfl) rfl rfl (@c2)
               (SatE.pCallE 28 ([AV.ref (Site.inc (0 : Nat)) (0 : Nat) (0 : Nat), AV.str [(114 : UInt8), (101 : UInt8), (112 : UInt8), (108 : UInt8), (105 : UInt8), (99 : UInt8), (97 : UInt8)]]) ([Blk.box (AV.agg [AV.tree (List.map encB b), AV.int IntKind.i64 (↑a2 : Int), encErr Option.none]) Bool.true]) (by kernel_rfl) rfl rfl (@c3)
               (SatE.pCallE 28 ([AV.ref (Site.inc (0 : Nat)) (0 : Nat) (0 : Nat), AV.str [(110 : UInt8), (117 : UInt8), (109 : UInt8), (98 : UInt8), (101 : UInt8), (114 : UInt8)]]) ([Blk.box (AV.agg [AV.tree (List.map encB b), AV.int IntKind.i64 (↑a3 : Int), encErr Option.none]) Bool.true]) (by kernel_rfl) rfl rfl (@c4)
               (SatE.pCallE 28 ([AV.ref (Site.inc (0 : Nat)) (0 : Nat) (0 : Nat), AV.str [(101 : UInt8), (110 : UInt8), (100 : UInt8)]]) ([Blk.box (AV.agg [AV.tree (List.map encB b), AV.int IntKind.i64 (↑a4 : Int), encErr Option.none]) Bool.true]) (by kernel_rfl) rfl rfl (@c5)
               (SatE.pCallE 28 ([AV.ref (Site.inc (0 : Nat)) (0 : Nat) (0 : Nat), AV.str [(97 : UInt8), (116 : UInt8), (116 : UInt8), (114 : UInt8), (105 : UInt8), (98 : UInt8), (117 : UInt8), (116 : UInt8), (101 : UInt8), (115 : UInt8)]]) ([Blk.box (AV.agg [AV.tree (List.map encB b), AV.int IntKind.i64 (↑a5 : Int), encErr Option.none]) Bool.true]) (by kernel_rfl) rfl rfl (@c6)
               (SatE.pJoinE (L := loopD X.cfg (17 : FuncId) Proofs.Tryz.f17 (1 : Nat) (6 : Nat)) (St.mk [((0 : Nat), AV.ref (Site.inc (0 : Nat)) (0 : Nat) (0 : Nat)), ((2 : Nat), AV.ref (Site.head (2 : Nat) (0 : Nat)) (0 : Nat) (0 : Nat)), ((3 : Nat), AV.int IntKind.i64 (↑v5 : Int)), ((4 : Nat), AV.int IntKind.i64 (if (9 : Int) < (0 : Int) then (9 : Int) else (0 : Int)))] [(Site.inc (0 : Nat), Blk.box (AV.agg [AV.tree (List.map encB b), AV.int IntKind.i64 (↑a6 : Int), AV.iface (67 : TypeId) (AV.agg [AV.iface (51 : TypeId) (AV.agg [AV.str s])])]) Bool.true), (Site.head (2 : Nat) (0 : Nat), Blk.box (AV.agg [AV.int IntKind.i64 (↑v1 : Int), AV.int IntKind.i64 (↑v2 : Int), AV.int IntKind.i64 (↑v3 : Int), AV.int IntKind.i64 (↑v4 : Int), AV.bool (decide ((↑v5 : Int) = (1 : Int))), AV.sref (Site.head (2 : Nat) (1 : Nat)) (0 : Nat) (0 : Nat), AV.str [], AV.str []]) Bool.true), (Site.head (2 : Nat) (1 : Nat), Blk.row (2 : Nat) [] Bool.true Bool.true)]) (by kernel_rfl) rfl rfl (again_f ((↑v1 : Int)) ((↑v2 : Int)) ((↑v3 : Int)) ((↑v4 : Int)) ((↑v5 : Int)) (decide ((↑v5 : Int) = (1 : Int))) (a6) (by assumption) (s) (by assumption) (if (9 : Int) < (0 : Int) then (9 : Int) else (0 : Int)) (by omega) ([]) (by (clear again_f c1 c2 c3 c4 c5 c6; (simp; done))) (by omega)))))))))
            | none =>
              clear f6
              have e6 := (s6 rfl).2
              have e5 := (s5 rfl).2
              have e4 := (s4 rfl).2
              have e3 := (s3 rfl).2
              have e2 := (s2 rfl).2
              have e1 := (s1 rfl).2
              have hs : b.take a6 = numB v1 ++ (numB v2 ++ (numB v3 ++ (numB v4 ++ (numB v5 ++ numB v6)))) := by rw [e6, e5, e4, e3, e2, e1]; simp
              clear s1 s2 s3 s4 s5 s6 e1 e2 e3 e4 e5 e6 q1 q2 q3 q4 q5 q6 l1 l2 l3 l4 l5
              refine spec_ex ok Go.Proofs.Tryz.func17 ok17 ?_
              refine
               (SatE.pCallE 28 ([AV.ref (Site.inc (0 : Nat)) (0 : Nat) (0 : Nat), AV.str [(116 : UInt8), (104 : UInt8), (105 : UInt8), (110 : UInt8), (103 : UInt8)]]) ([Blk.box (AV.agg [AV.tree (List.map encB b), AV.int IntKind.i64 (0 : Int), AV.nili]) Bool.true]) (by kernel_rfl) rfl rfl (@c1)
               (SatE.pCallE 28 ([AV.ref (Site.inc (0 : Nat)) (0 : Nat) (0 : Nat), AV.str [(116 : UInt8), (105 : UInt8), (109 : UInt8), (101 : UInt8)]]) ([Blk.box (AV.agg [AV.tree (List.map encB b), AV.int IntKind.i64 (↑a1 : Int), encErr Option.none]) Bool.true]) (by kernel_rfl) rfl rfl (@c2)
               (SatE.pCallE 28 ([AV.ref (Site.inc (0 : Nat)) (0 : Nat) (0 : Nat), AV.str [(114 : UInt8), (101 : UInt8), (112 : UInt8), (108 : UInt8), (105 : UInt8), (99 : UInt8), (97 : UInt8)]]) ([Blk.box (AV.agg [AV.tree (List.map encB b), AV.int IntKind.i64 (↑a2 : Int), encErr Option.none]) Bool.true]) (by kernel_rfl) rfl rfl (@c3)
               (SatE.pCallE 28 ([AV.ref (Site.inc (0 : Nat)) (0 : Nat) (0 : Nat), AV.str [(110 : UInt8), (117 : UInt8), (109 : UInt8), (98 : UInt8), (101 : UInt8), (114 : UInt8)]]) ([Blk.box (AV.agg [AV.tree (List.map encB b), AV.int IntKind.i64 (↑a3 : Int), encErr Option.none]) Bool.true]) (by kernel_rfl) rfl rfl (@c4)
               (SatE.pCallE 28 ([AV.ref (Site.inc (0 : Nat)) (0 : Nat) (0 : Nat), AV.str [(101 : UInt8), (110 : UInt8), (100 : UInt8)]]) ([Blk.box (AV.agg [AV.tree (List.map encB b), AV.int IntKind.i64 (↑a4 : Int), encErr Option.none]) Bool.true]) (by kernel_rfl) rfl rfl (@c5)
               (SatE.pCallE 28 ([AV.ref (Site.inc (0 : Nat)) (0 : Nat) (0 : Nat), AV.str [(97 : UInt8), (116 : UInt8), (116 : UInt8), (114 : UInt8), (105 : UInt8), (98 : UInt8), (117 : UInt8), (116 : UInt8), (101 : UInt8), (115 : UInt8)]]) ([Blk.box (AV.agg [AV.tree (List.map encB b), AV.int IntKind.i64 (↑a5 : Int), encErr Option.none]) Bool.true]) (by kernel_rfl) rfl rfl (@c6) ?_))))))
              clear c1 c2 c3 c4 c5 c6
              refine SatE.pLoop 6 (St.mk [((0 : Nat), AV.ref (Site.inc (0 : Nat)) (0 : Nat) (0 : Nat)), ((2 : Nat), AV.ref (Site.head (2 : Nat) (0 : Nat)) (0 : Nat) (0 : Nat)), ((3 : Nat), AV.int IntKind.i64 (↑v5 : Int)), ((4 : Nat), AV.int IntKind.i64 (if (9 : Int) < (↑v6 : Int) then (9 : Int) else (↑v6 : Int)))] [(Site.inc (0 : Nat), Blk.box (AV.agg [AV.tree (List.map encB b), AV.int IntKind.i64 (↑a6 : Int), encErr Option.none]) Bool.true), (Site.head (2 : Nat) (0 : Nat), Blk.box (AV.agg [AV.int IntKind.i64 (↑v1 : Int), AV.int IntKind.i64 (↑v2 : Int), AV.int IntKind.i64 (↑v3 : Int), AV.int IntKind.i64 (↑v4 : Int), AV.bool (decide ((↑v5 : Int) = (1 : Int))), AV.sref (Site.head (2 : Nat) (1 : Nat)) (0 : Nat) (0 : Nat), AV.str [], AV.str []]) Bool.true), (Site.head (2 : Nat) (1 : Nat), Blk.row (2 : Nat) [] Bool.true Bool.true)]) (by kernel_rfl) (fun (p : Int × Nat × List Attr) => ⟨[(0, .ref (.inc 0) 0 0), (2, .ref (.head 2 0) 0 0), (3, .int .i64 v5), (4, .int .i64 p.1)], [(.inc 0, .box (.agg [.tree (b.map encB), .int .i64 p.2.1, .nili]) true), (.head 2 0, .box (.agg [.int .i64 v1, .int .i64 v2, .int .i64 v3, .int .i64 v4, .bool (decide ((v5 : Int) = 1)), .sref (.head 2 1) 0 p.2.2.length, .str [], .str []]) true), (.head 2 1, .row 2 (p.2.2.map encAttr) true true)]⟩) (fun p => 0 ≤ p.1 ∧ p.1 + p.2.2.length = (if (9 : Int) < v6 then 9 else (v6 : Int)) ∧ p.2.1 ≤ b.length ∧ b.take p.2.1 = b.take a6 ++ attrsB p.2.2) (fun p => p.1.toNat) (if (9 : Int) < v6 then 9 else (v6 : Int), a6, []) rfl ?_ ?_
              · exact ⟨by simp only; split <;> omega, by simp, l6, by simp [attrsB]⟩
              · rintro ⟨n, at1, l⟩ ⟨i1, i2, i3, i5⟩ again
                simp only at i1 i2 i3 i5
                have hl9 : (l.length : Int) + n ≤ 9 := by split at i2 <;> omega
                by_cases hn : 0 < n
                · obtain ⟨⟨x1, q1, r1⟩, d1, t1, g1, y1, w1, _⟩ := num_ex b [107, 101, 121] hbl at1 i3 none
                  simp only at d1 t1 g1 y1 w1
                  rw [show encErr none = .nili from rfl] at d1
                  cases r1 with
                  | some s =>
                    have hz : s ∈ whats := by rcases y1 with h | h <;> cases h <;> decide
                    rw [show encErr (some s) = .iface 67 (.agg [.iface 51 (.agg [.str s])]) from rfl] at d1
                    clear y1 t1
                    refine (SatE.pIfET ((0 : Int) < n) ((0 : Int) < n) (by kernel_rfl) Iff.rfl hn
                     (SatE.pCallE 28 ([AV.ref (Site.inc (0 : Nat)) (0 : Nat) (0 : Nat), AV.str [(107 : UInt8), (101 : UInt8), (121 : UInt8)]]) ([Blk.box (AV.agg [AV.tree (List.map encB b), AV.int IntKind.i64 (↑at1 : Int), AV.nili]) Bool.true]) (by kernel_rfl) rfl rfl (@d1)
                     (SatE.pCallE 28 ([AV.ref (Site.inc (0 : Nat)) (0 : Nat) (0 : Nat), AV.str [(118 : UInt8), (97 : UInt8), (108 : UInt8), (117 : UInt8), (101 : UInt8)]]) ([Blk.box (AV.agg [AV.tree (List.map encB b), AV.int IntKind.i64 (↑q1 : Int), AV.iface (67 : TypeId) (AV.agg [AV.iface (51 : TypeId) (AV.agg [AV.str s])])]) Bool.true]) (by kernel_rfl) rfl rfl (@Go.Ab.Tryz.c28 (b) ([(118 : UInt8), (97 : UInt8), (108 : UInt8), (117 : UInt8), (101 : UInt8)]) (s) ((↑q1 : Int)))
                     (SatE.pIf ((l.length + (1 : Nat)) * (16 : Nat) ≤ (140737488355328 : Nat)) (by kernel_rfl) (fun _h112 =>
                     (SatE.pIfE (l.length = (List.map encAttr l).length) (True) (by kernel_rfl) (by simp only [List.length_map]) (fun _h113 =>
                     (have _w114 : IntKind.i64.wrap (n - (1 : Int)) = n - (1 : Int) := wI64 (by omega) (by omega);
                     (SatE.pJoinE (L := loopD X.cfg (17 : FuncId) Proofs.Tryz.f17 (1 : Nat) (6 : Nat)) (St.mk [((0 : Nat), AV.ref (Site.inc (0 : Nat)) (0 : Nat) (0 : Nat)), ((2 : Nat), AV.ref (Site.head (2 : Nat) (0 : Nat)) (0 : Nat) (0 : Nat)), ((3 : Nat), AV.int IntKind.i64 (↑v5 : Int)), ((4 : Nat), AV.int IntKind.i64 (IntKind.i64.wrap (n - (1 : Int))))] [(Site.inc (0 : Nat), Blk.box (AV.agg [AV.tree (List.map encB b), AV.int IntKind.i64 (↑q1 : Int), AV.iface (67 : TypeId) (AV.agg [AV.iface (51 : TypeId) (AV.agg [AV.str s])])]) Bool.true), (Site.head (2 : Nat) (0 : Nat), Blk.box (AV.agg [AV.int IntKind.i64 (↑v1 : Int), AV.int IntKind.i64 (↑v2 : Int), AV.int IntKind.i64 (↑v3 : Int), AV.int IntKind.i64 (↑v4 : Int), AV.bool (decide ((↑v5 : Int) = (1 : Int))), AV.sref (Site.head (2 : Nat) (1 : Nat)) (0 : Nat) (l.length + (1 : Nat)), AV.str [], AV.str []]) Bool.true), (Site.head (2 : Nat) (1 : Nat), Blk.row (2 : Nat) (List.map encAttr l ++ [AV.agg [AV.int IntKind.i64 (↑x1 : Int), AV.int IntKind.i64 (0 : Int)]]) Bool.true Bool.true)]) (by kernel_rfl) (by simp [encAttr, _w114]) rfl (again_f ((↑v1 : Int)) ((↑v2 : Int)) ((↑v3 : Int)) ((↑v4 : Int)) ((↑v5 : Int)) (decide ((↑v5 : Int) = (1 : Int))) (q1) (by assumption) (s) (by assumption) (n - (1 : Int)) (by omega) (l ++ [Attr.mk (↑x1 : Int) (0 : Int)]) (by (clear again_f again d1; (simp; omega))) (by omega)))))
                     (fun _h113 => (_h113 trivial).elim))) (fun _h112 => False.elim (by omega))))))
                  | none =>
                    obtain ⟨⟨x2, q2, r2⟩, d2, t2, g2, y2, w2, _⟩ := num_ex b [118, 97, 108, 117, 101] hbl q1 g1 none
                    simp only at d2 t2 g2 y2 w2
                    rw [show encErr none = .nili from rfl] at d2
                    cases r2 with
                    | some s =>
                      have hz : s ∈ whats := by rcases y2 with h | h <;> cases h <;> decide
                      rw [show encErr (some s) = .iface 67 (.agg [.iface 51 (.agg [.str s])]) from rfl] at d2
                      clear y2 t2
                      refine (SatE.pIfET ((0 : Int) < n) ((0 : Int) < n) (by kernel_rfl) Iff.rfl hn
                       (SatE.pCallE 28 ([AV.ref (Site.inc (0 : Nat)) (0 : Nat) (0 : Nat), AV.str [(107 : UInt8), (101 : UInt8), (121 : UInt8)]]) ([Blk.box (AV.agg [AV.tree (List.map encB b), AV.int IntKind.i64 (↑at1 : Int), AV.nili]) Bool.true]) (by kernel_rfl) rfl rfl (@d1)
                       (SatE.pCallE 28 ([AV.ref (Site.inc (0 : Nat)) (0 : Nat) (0 : Nat), AV.str [(118 : UInt8), (97 : UInt8), (108 : UInt8), (117 : UInt8), (101 : UInt8)]]) ([Blk.box (AV.agg [AV.tree (List.map encB b), AV.int IntKind.i64 (↑q1 : Int), encErr Option.none]) Bool.true]) (by kernel_rfl) rfl rfl (@d2)
                       (SatE.pIf ((l.length + (1 : Nat)) * (16 : Nat) ≤ (140737488355328 : Nat)) (by kernel_rfl) (fun _h124 =>
                       (SatE.pIfE (l.length = (List.map encAttr l).length) (True) (by kernel_rfl) (by simp only [List.length_map]) (fun _h125 =>
                       (have _w126 : IntKind.i64.wrap (n - (1 : Int)) = n - (1 : Int) := wI64 (by omega) (by omega);
                       (SatE.pJoinE (L := loopD X.cfg (17 : FuncId) Proofs.Tryz.f17 (1 : Nat) (6 : Nat)) (St.mk [((0 : Nat), AV.ref (Site.inc (0 : Nat)) (0 : Nat) (0 : Nat)), ((2 : Nat), AV.ref (Site.head (2 : Nat) (0 : Nat)) (0 : Nat) (0 : Nat)), ((3 : Nat), AV.int IntKind.i64 (↑v5 : Int)), ((4 : Nat), AV.int IntKind.i64 (IntKind.i64.wrap (n - (1 : Int))))] [(Site.inc (0 : Nat), Blk.box (AV.agg [AV.tree (List.map encB b), AV.int IntKind.i64 (↑q2 : Int), AV.iface (67 : TypeId) (AV.agg [AV.iface (51 : TypeId) (AV.agg [AV.str s])])]) Bool.true), (Site.head (2 : Nat) (0 : Nat), Blk.box (AV.agg [AV.int IntKind.i64 (↑v1 : Int), AV.int IntKind.i64 (↑v2 : Int), AV.int IntKind.i64 (↑v3 : Int), AV.int IntKind.i64 (↑v4 : Int), AV.bool (decide ((↑v5 : Int) = (1 : Int))), AV.sref (Site.head (2 : Nat) (1 : Nat)) (0 : Nat) (l.length + (1 : Nat)), AV.str [], AV.str []]) Bool.true), (Site.head (2 : Nat) (1 : Nat), Blk.row (2 : Nat) (List.map encAttr l ++ [AV.agg [AV.int IntKind.i64 (↑x1 : Int), AV.int IntKind.i64 (↑x2 : Int)]]) Bool.true Bool.true)]) (by kernel_rfl) (by simp [encAttr, _w126]) rfl (again_f ((↑v1 : Int)) ((↑v2 : Int)) ((↑v3 : Int)) ((↑v4 : Int)) ((↑v5 : Int)) (decide ((↑v5 : Int) = (1 : Int))) (q2) (by assumption) (s) (by assumption) (n - (1 : Int)) (by omega) (l ++ [Attr.mk (↑x1 : Int) (↑x2 : Int)]) (by (clear again_f again d1 d2; (simp; omega))) (by omega)))))
                       (fun _h125 => (_h125 trivial).elim))) (fun _h124 => False.elim (by omega))))))
                    | none =>
                      have f1 := (t1 rfl).2
                      have f2 := (t2 rfl).2
                      clear y1 y2 t1 t2
                      refine (SatE.pIfET ((0 : Int) < n) ((0 : Int) < n) (by kernel_rfl) Iff.rfl hn
                       (SatE.pCallE 28 ([AV.ref (Site.inc (0 : Nat)) (0 : Nat) (0 : Nat), AV.str [(107 : UInt8), (101 : UInt8), (121 : UInt8)]]) ([Blk.box (AV.agg [AV.tree (List.map encB b), AV.int IntKind.i64 (↑at1 : Int), AV.nili]) Bool.true]) (by kernel_rfl) rfl rfl (@d1)
                       (SatE.pCallE 28 ([AV.ref (Site.inc (0 : Nat)) (0 : Nat) (0 : Nat), AV.str [(118 : UInt8), (97 : UInt8), (108 : UInt8), (117 : UInt8), (101 : UInt8)]]) ([Blk.box (AV.agg [AV.tree (List.map encB b), AV.int IntKind.i64 (↑q1 : Int), encErr Option.none]) Bool.true]) (by kernel_rfl) rfl rfl (@d2)
                       (SatE.pIf ((l.length + (1 : Nat)) * (16 : Nat) ≤ (140737488355328 : Nat)) (by kernel_rfl) (fun _h121 =>
                       (SatE.pIfE (l.length = (List.map encAttr l).length) (True) (by kernel_rfl) (by simp only [List.length_map]) (fun _h122 =>
                       (have _w123 : IntKind.i64.wrap (n - (1 : Int)) = n - (1 : Int) := wI64 (by omega) (by omega);
                       (SatE.pAgainE (St.mk [((0 : Nat), AV.ref (Site.inc (0 : Nat)) (0 : Nat) (0 : Nat)), ((2 : Nat), AV.ref (Site.head (2 : Nat) (0 : Nat)) (0 : Nat) (0 : Nat)), ((3 : Nat), AV.int IntKind.i64 (↑v5 : Int)), ((4 : Nat), AV.int IntKind.i64 (IntKind.i64.wrap (n - (1 : Int))))] [(Site.inc (0 : Nat), Blk.box (AV.agg [AV.tree (List.map encB b), AV.int IntKind.i64 (↑q2 : Int), encErr Option.none]) Bool.true), (Site.head (2 : Nat) (0 : Nat), Blk.box (AV.agg [AV.int IntKind.i64 (↑v1 : Int), AV.int IntKind.i64 (↑v2 : Int), AV.int IntKind.i64 (↑v3 : Int), AV.int IntKind.i64 (↑v4 : Int), AV.bool (decide ((↑v5 : Int) = (1 : Int))), AV.sref (Site.head (2 : Nat) (1 : Nat)) (0 : Nat) (l.length + (1 : Nat)), AV.str [], AV.str []]) Bool.true), (Site.head (2 : Nat) (1 : Nat), Blk.row (2 : Nat) (List.map encAttr l ++ [AV.agg [AV.int IntKind.i64 (↑x1 : Int), AV.int IntKind.i64 (↑x2 : Int)]]) Bool.true Bool.true)]) (by kernel_rfl) (by (clear again_f again d1 d2; (simp [encErr, encAttr, *]; done))) (again ((n - (1 : Int), q2, l ++ [Attr.mk (↑x1 : Int) (↑x2 : Int)])) ⟨(by show (0 : Int) ≤ n - (1 : Int); omega), ⟨(by show n - (1 : Int) + (↑(l ++ [Attr.mk (↑x1 : Int) (↑x2 : Int)]).length : Int) = if (9 : Int) < (↑v6 : Int) then (9 : Int) else (↑v6 : Int); (clear again_f again d1 d2; (simp; omega))), ⟨(by show q2 ≤ b.length; omega), ?_⟩⟩⟩ (by show (n - (1 : Int)).toNat < n.toNat; omega)))))
                       (fun _h122 => (_h122 trivial).elim))) (fun _h121 => False.elim (by omega))))))
                      show List.take q2 b = _
                      rw [f2, f1, i5]; simp [attrsB]
                · obtain ⟨⟨T, q1, r1⟩, d1, t1, g1, y1, w1⟩ := text_ex b [116, 97, 103] hbl at1 i3 none
                  simp only at d1 t1 g1 y1 w1
                  rw [show encErr none = .nili from rfl] at d1
                  cases r1 with
                  | some s =>
                    have hz : s ∈ whats := by rcases y1 with h | h <;> cases h <;> decide
                    rw [show encErr (some s) = .iface 67 (.agg [.iface 51 (.agg [.str s])]) from rfl] at d1
                    clear y1 t1
                    refine (SatE.pIfEF ((0 : Int) < n) ((0 : Int) < n) (by kernel_rfl) Iff.rfl hn
                     (SatE.pCallE 29 ([AV.ref (Site.inc (0 : Nat)) (0 : Nat) (0 : Nat), AV.str [(116 : UInt8), (97 : UInt8), (103 : UInt8)]]) ([Blk.box (AV.agg [AV.tree (List.map encB b), AV.int IntKind.i64 (↑at1 : Int), AV.nili]) Bool.true]) (by kernel_rfl) rfl rfl (@d1)
                     (SatE.pCallE 29 ([AV.ref (Site.inc (0 : Nat)) (0 : Nat) (0 : Nat), AV.str [(98 : UInt8), (111 : UInt8), (100 : UInt8), (121 : UInt8)]]) ([Blk.box (AV.agg [AV.tree (List.map encB b), AV.int IntKind.i64 (↑q1 : Int), AV.iface (67 : TypeId) (AV.agg [AV.iface (51 : TypeId) (AV.agg [AV.str s])])]) Bool.true]) (by kernel_rfl) rfl rfl (@Go.Ab.Tryz.c29 (b) ([(98 : UInt8), (111 : UInt8), (100 : UInt8), (121 : UInt8)]) (s) ((↑q1 : Int)))
                     (SatE.pNodeF false (by kernel_rfl) rfl (SatE.pNodeF false (by kernel_rfl) rfl (SatE.pNodeF false (by kernel_rfl) rfl (SatE.pNodeF false (by kernel_rfl) rfl (SatE.pNodeF false (by kernel_rfl) rfl
                     (SatE.pNodeF false (by kernel_rfl) rfl (have _w110 : List.take l.length (List.map encAttr l) = List.map encAttr l := List.take_of_length_le (by simp);
                     (SatE.pRet (Res.mk (AV.agg [AV.int IntKind.i64 (↑v1 : Int), AV.int IntKind.i64 (↑v2 : Int), AV.int IntKind.i64 (↑v3 : Int), AV.int IntKind.i64 (↑v4 : Int), AV.bool (decide ((↑v5 : Int) = (1 : Int))), AV.tree (List.take l.length (List.map encAttr l)), AV.str T, AV.str []]) [Blk.box (AV.agg [AV.tree (List.map encB b), AV.int IntKind.i64 (↑q1 : Int), AV.iface (67 : TypeId) (AV.agg [AV.iface (51 : TypeId) (AV.agg [AV.str s])])]) Bool.true] []) (by kernel_rfl) ?_)))))))))))
                    exact ⟨(⟨v1, ⟨v2, v3, v4⟩, decide ((v5 : Int) = 1), l, T, []⟩, q1, s), by simp [encVersion, encErr, List.take_of_length_le], hz, g1⟩
                  | none =>
                    obtain ⟨⟨Y, q2, r2⟩, d2, t2, g2, y2, w2⟩ := text_ex b [98, 111, 100, 121] hbl q1 g1 none
                    simp only at d2 t2 g2 y2 w2
                    rw [show encErr none = .nili from rfl] at d2
                    cases r2 with
                    | some s =>
                      have hz : s ∈ whats := by rcases y2 with h | h <;> cases h <;> decide
                      rw [show encErr (some s) = .iface 67 (.agg [.iface 51 (.agg [.str s])]) from rfl] at d2
                      clear y2 t2
                      refine (SatE.pIfEF ((0 : Int) < n) ((0 : Int) < n) (by kernel_rfl) Iff.rfl hn
                       (SatE.pCallE 29 ([AV.ref (Site.inc (0 : Nat)) (0 : Nat) (0 : Nat), AV.str [(116 : UInt8), (97 : UInt8), (103 : UInt8)]]) ([Blk.box (AV.agg [AV.tree (List.map encB b), AV.int IntKind.i64 (↑at1 : Int), AV.nili]) Bool.true]) (by kernel_rfl) rfl rfl (@d1)
                       (SatE.pCallE 29 ([AV.ref (Site.inc (0 : Nat)) (0 : Nat) (0 : Nat), AV.str [(98 : UInt8), (111 : UInt8), (100 : UInt8), (121 : UInt8)]]) ([Blk.box (AV.agg [AV.tree (List.map encB b), AV.int IntKind.i64 (↑q1 : Int), encErr Option.none]) Bool.true]) (by kernel_rfl) rfl rfl (@d2)
                       (SatE.pNodeF false (by kernel_rfl) rfl (SatE.pNodeF false (by kernel_rfl) rfl (SatE.pNodeF false (by kernel_rfl) rfl (SatE.pNodeF false (by kernel_rfl) rfl (SatE.pNodeF false (by kernel_rfl) rfl
                       (SatE.pNodeF false (by kernel_rfl) rfl (have _w121 : List.take l.length (List.map encAttr l) = List.map encAttr l := List.take_of_length_le (by simp);
                       (SatE.pRet (Res.mk (AV.agg [AV.int IntKind.i64 (↑v1 : Int), AV.int IntKind.i64 (↑v2 : Int), AV.int IntKind.i64 (↑v3 : Int), AV.int IntKind.i64 (↑v4 : Int), AV.bool (decide ((↑v5 : Int) = (1 : Int))), AV.tree (List.take l.length (List.map encAttr l)), AV.str T, AV.str Y]) [Blk.box (AV.agg [AV.tree (List.map encB b), AV.int IntKind.i64 (↑q2 : Int), AV.iface (67 : TypeId) (AV.agg [AV.iface (51 : TypeId) (AV.agg [AV.str s])])]) Bool.true] []) (by kernel_rfl) ?_)))))))))))
                      exact ⟨(⟨v1, ⟨v2, v3, v4⟩, decide ((v5 : Int) = 1), l, T, Y⟩, q2, s), by simp [encVersion, encErr, List.take_of_length_le], hz, g2⟩
                    | none =>
                      have f1 := (t1 rfl).2
                      have f2 := (t2 rfl).2
                      clear y1 y2 t1 t2
                      refine (SatE.pIfEF ((0 : Int) < n) ((0 : Int) < n) (by kernel_rfl) Iff.rfl hn
                       (SatE.pCallE 29 ([AV.ref (Site.inc (0 : Nat)) (0 : Nat) (0 : Nat), AV.str [(116 : UInt8), (97 : UInt8), (103 : UInt8)]]) ([Blk.box (AV.agg [AV.tree (List.map encB b), AV.int IntKind.i64 (↑at1 : Int), AV.nili]) Bool.true]) (by kernel_rfl) rfl rfl (@d1)
                       (SatE.pCallE 29 ([AV.ref (Site.inc (0 : Nat)) (0 : Nat) (0 : Nat), AV.str [(98 : UInt8), (111 : UInt8), (100 : UInt8), (121 : UInt8)]]) ([Blk.box (AV.agg [AV.tree (List.map encB b), AV.int IntKind.i64 (↑q1 : Int), encErr Option.none]) Bool.true]) (by kernel_rfl) rfl rfl (@d2)
                       (SatE.pNodeT true (by kernel_rfl) rfl (SatE.pNodeT true (by kernel_rfl) rfl (SatE.pNodeT true (by kernel_rfl) rfl
                       (SatE.pIfE ((1 : Int) < (↑v5 : Int)) ((1 : Nat) < v5) (by kernel_rfl) (by simp only [ciLt]) (fun _h119 =>
                       (SatE.pIfET ((1 : Int) < (↑v5 : Int)) ((1 : Nat) < v5) (by kernel_rfl) (by simp only [ciLt]) _h119 (SatE.pIfET ((1 : Int) < (↑v5 : Int)) ((1 : Nat) < v5) (by kernel_rfl) (by simp only [ciLt]) _h119
                       (SatE.pNodeT true (by kernel_rfl) rfl (SatE.pIfET ((1 : Int) < (↑v5 : Int)) ((1 : Nat) < v5) (by kernel_rfl) (by simp only [ciLt]) _h119 (SatE.pNodeT true (by kernel_rfl) rfl
                       (SatE.pNodeT true (by kernel_rfl) rfl (have _w120 : List.take l.length (List.map encAttr l) = List.map encAttr l := List.take_of_length_le (by simp);
                       (SatE.pRet (Res.mk (AV.agg [AV.int IntKind.i64 (↑v1 : Int), AV.int IntKind.i64 (↑v2 : Int), AV.int IntKind.i64 (↑v3 : Int), AV.int IntKind.i64 (↑v4 : Int), AV.bool (decide ((↑v5 : Int) = (1 : Int))), AV.tree (List.take l.length (List.map encAttr l)), AV.str T, AV.str Y]) [Blk.box (AV.agg [AV.tree (List.map encB b), AV.int IntKind.i64 (↑q2 : Int), AV.iface (67 : Nat) (AV.agg [AV.iface (51 : Nat) (AV.agg [AV.str [(105 : UInt8), (116 : UInt8)]])])]) Bool.true] []) (by kernel_rfl) ?_)))))))))
                       (fun _h119 => (SatE.pIfEF ((1 : Int) < (↑v5 : Int)) ((1 : Nat) < v5) (by kernel_rfl) (by simp only [ciLt]) _h119
                       (have _w121 : List.take l.length (List.map encAttr l) = List.map encAttr l := List.take_of_length_le (by simp);
                       (SatE.pCallE 22 ([AV.agg [AV.int IntKind.i64 (↑v1 : Int), AV.int IntKind.i64 (↑v2 : Int), AV.int IntKind.i64 (↑v3 : Int), AV.int IntKind.i64 (↑v4 : Int), AV.bool (decide ((↑v5 : Int) = (1 : Int))), AV.tree (List.take l.length (List.map encAttr l)), AV.str T, AV.str Y]]) ([]) (by kernel_rfl) (by simp [encVersion, _w121]) rfl (@Go.Ab.Tryz.c22a (Version.mk (↑v1 : Int) (Stamp.mk (↑v2 : Int) (↑v3 : Int) (↑v4 : Int)) (decide ((↑v5 : Int) = (1 : Int))) l T Y) (by show l.length ≤ (100000 : Nat); omega) (by show T.length ≤ (100000 : Nat); omega) (by show Y.length ≤ (100000 : Nat); omega))
                       (SatE.pIfEF ((1 : Int) < (↑v5 : Int)) ((1 : Nat) < v5) (by kernel_rfl) (by simp only [ciLt]) _h119 (SatE.pNodeT true (by kernel_rfl) rfl
                       (SatE.pIfEF ((1 : Int) < (↑v5 : Int)) ((1 : Nat) < v5) (by kernel_rfl) (by simp only [ciLt]) _h119 (SatE.pNodeT true (by kernel_rfl) rfl
                       (SatE.pNodeEN ((Version.mk (↑v1 : Int) (Stamp.mk (↑v2 : Int) (↑v3 : Int) (↑v4 : Int)) (decide ((↑v5 : Int) = (1 : Int))) l T Y).may) ((Version.mk (↑v1 : Int) (Stamp.mk (↑v2 : Int) (↑v3 : Int) (↑v4 : Int)) (decide (v5 = (1 : Nat))) l T Y).may = Bool.true) (by kernel_rfl) (by simp only [icEq])
                       (fun _h122 =>
                       (SatE.pRet (Res.mk (AV.agg [AV.int IntKind.i64 (↑v1 : Int), AV.int IntKind.i64 (↑v2 : Int), AV.int IntKind.i64 (↑v3 : Int), AV.int IntKind.i64 (↑v4 : Int), AV.bool (decide ((↑v5 : Int) = (1 : Int))), AV.tree (List.take l.length (List.map encAttr l)), AV.str T, AV.str Y]) [Blk.box (AV.agg [AV.tree (List.map encB b), AV.int IntKind.i64 (↑q2 : Int), AV.iface (67 : Nat) (AV.agg [AV.iface (51 : Nat) (AV.agg [AV.str [(105 : UInt8), (116 : UInt8)]])])]) Bool.true] []) (by kernel_rfl) ?_))
                       (fun _h122 =>
                       (SatE.pRet (Res.mk (AV.agg [AV.int IntKind.i64 (↑v1 : Int), AV.int IntKind.i64 (↑v2 : Int), AV.int IntKind.i64 (↑v3 : Int), AV.int IntKind.i64 (↑v4 : Int), AV.bool (decide ((↑v5 : Int) = (1 : Int))), AV.tree (List.take l.length (List.map encAttr l)), AV.str T, AV.str Y]) [Blk.box (AV.agg [AV.tree (List.map encB b), AV.int IntKind.i64 (↑q2 : Int), encErr Option.none]) Bool.true] []) (by kernel_rfl) ?_))))))))))))))))))
                      · exact ⟨(⟨v1, ⟨v2, v3, v4⟩, decide ((v5 : Int) = 1), l, T, Y⟩, q2, [105, 116]), by simp [encVersion, encErr, List.take_of_length_le], (show [105, 116] ∈ whats by decide), g2⟩
                      · exact ⟨(⟨v1, ⟨v2, v3, v4⟩, decide ((v5 : Int) = 1), l, T, Y⟩, q2, [105, 116]), by simp [encVersion, encErr, List.take_of_length_le], (show [105, 116] ∈ whats by decide), g2⟩
                      · exfalso
                        have hm : (Version.mk v1 ⟨v2, v3, v4⟩ (decide (v5 = 1)) l T Y).may = true := by assumption
                        have f := Version.may_fit hm
                        have hal := f.al
                        simp only at hal
                        have hv6 : v6 = l.length := by split at i2 <;> omega
                        have hv5 : (decide (v5 = 1)).toNat = v5 := by rcases (by omega : v5 = 0 ∨ v5 = 1) with rfl | rfl <;> rfl
                        refine hno _ (b.drop q2) hm ?_
                        have e := List.take_append_drop q2 b
                        rw [f2, f1, i5, hs] at e
                        refine e.symm.trans ?_
                        simp only [putVers, hm, if_true, versB, Int.toNat_natCast, hv5, hv6, List.nil_append, List.append_assoc]
end Go.Ab.Tryz
