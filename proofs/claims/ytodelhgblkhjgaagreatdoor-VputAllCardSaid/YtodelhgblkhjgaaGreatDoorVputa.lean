/- Packages bits, stamp, vers: a version that may be, its numbers as bytes; as plain Lean. -/
import Derived.Test.YtodelhgblkhjgaaGreatDoorRef1f
import Derived.Test.YtodelhgblkhjgaaGreatDoorPicks2
import Derived.Test.YtodelhgblkhjgaaGreatDoorHand
import Derived.Test.YtodelhgblkhjgaaGreatDoorG3
namespace Go.Ab.Tryz
open Go
set_option maxRecDepth 100000
set_option maxHeartbeats 4000000
theorem c39 (l : List UInt8) (hl : l.length ≤ 100000) :
    X.call 39 [.tree (l.map encB)] [] ⟨.sref (.out 0) 0 l.length, [], [.row 1 (l.map encB) true true]⟩ := by
  refine spec_of ok Go.Proofs.Tryz.func39 ok39 ?_
  refine (Sat.pNodeE ((List.map encB l).isEmpty) (l = []) (by kernel_rfl) (by simp only [List.isEmpty_map, List.isEmpty_iff]) (fun _h3 => (Sat.pAmb (by kernel_rfl) (Sat.pNodeT true (by kernel_rfl) rfl
   (Sat.pRet (Res.mk (AV.sref (Site.out (0 : Nat)) (0 : Nat) (0 : Nat)) [] [Blk.row (1 : Nat) [] Bool.true Bool.true]) (by kernel_rfl) (by simp_all))) (Sat.pNodeF false (by kernel_rfl) rfl
   (Sat.pEszM (encB) (l) (List.map encB l) (1) (by kernel_rfl) rfl (fun _ => rfl)
   (Sat.pIfE (((0 : Nat) + (List.map encB l).length) * (1 : Nat) ≤ (140737488355328 : Nat)) (((0 : Nat) + l.length) * (1 : Nat) ≤ (140737488355328 : Nat)) (by kernel_rfl) (by simp only [List.length_map])
   (fun _h4 => (Sat.pNodeT true (by kernel_rfl) rfl
   (Sat.pRet (Res.mk (AV.sref (Site.out (0 : Nat)) (0 : Nat) ((0 : Nat) + (List.map encB l).length)) [] [Blk.row (1 : Nat) (List.map encB l) Bool.true Bool.true]) (by kernel_rfl) (by simp_all))))
   (fun _h4 => False.elim (by omega))))))) (fun _h3 => (Sat.pNodeF false (by kernel_rfl) rfl (Sat.pEszM (encB) (l) (List.map encB l) (1) (by kernel_rfl) rfl (fun _ => rfl)
   (Sat.pIfE (((0 : Nat) + (List.map encB l).length) * (1 : Nat) ≤ (140737488355328 : Nat)) (((0 : Nat) + l.length) * (1 : Nat) ≤ (140737488355328 : Nat)) (by kernel_rfl) (by simp only [List.length_map])
   (fun _h5 => (Sat.pNodeT true (by kernel_rfl) rfl
   (Sat.pRet (Res.mk (AV.sref (Site.out (0 : Nat)) (0 : Nat) ((0 : Nat) + (List.map encB l).length)) [] [Blk.row (1 : Nat) (List.map encB l) Bool.true Bool.true]) (by kernel_rfl) (by simp_all))))
   (fun _h5 => False.elim (by omega)))))))
theorem fd7 (w : Nat) : (w : Int).fdiv (2 ^ 7) = ((w / 128 : Nat) : Int) := by
  rw [Int.fdiv_eq_ediv_of_nonneg _ (by decide)]
  omega
theorem or_all : (List.range 256).all (fun n => (BitVec.ofNat 8 n ||| 128#8).toNat == n % 128 + 128) = true := by kernel_rfl
theorem or128 (w : Nat) : (BitVec.ofInt 8 ((u8w (w : Int)).toNat : Int) ||| BitVec.ofInt 8 128).toNat = w % 128 + 128 := by
  have h1 : ((u8w (w : Int)).toNat : Int) = ((w % 256 : Nat) : Int) := by
    rw [← u8w_eq]
    simp only [IntKind.wrap, IntKind.bits, IntKind.signed]
    simp
  rw [h1, BitVec.ofInt_natCast]
  have h2 := List.all_eq_true.1 or_all (w % 256) (by simp; omega)
  simp only [beq_iff_eq] at h2
  rw [show BitVec.ofInt 8 128 = 128#8 from rfl, h2]
  omega
theorem or128w (w : Nat) : IntKind.u8.wrap ((BitVec.ofInt 8 (IntKind.u8.wrap (w : Int)) ||| BitVec.ofInt 8 128).toNat : Int) = ((UInt8.ofNat (BitVec.ofInt 8 ((u8w (w : Int)).toNat : Int) ||| BitVec.ofInt 8 128).toNat).toNat : Int) := by
  rw [u8w_eq (w : Int), or128, wU8 (by omega) (by omega)]
  simp only [UInt8.toNat_ofNat']
  omega
theorem pputNum_call (b : List UInt8) (v : Nat) (hb : b.length ≤ 90000) (hv : v ≤ 1000000000) : X.call 23 [.tree (b.map encB), .int .i64 v] [] ⟨.sref (.out 0) 0 (b ++ numB v).length, [], [.row 1 ((b ++ numB v).map encB) true true]⟩ := by
  have hn := numB_len v hv
  refine spec_of ok Go.Proofs.Tryz.func23 ok23 ?_
  refine (Sat.pCallE 39 ([AV.tree (List.map encB b)]) ([]) (by kernel_rfl) rfl rfl (@Go.Ab.Tryz.c39 (b) (by omega))
   (have _w6 : IntKind.u64.wrap (↑v : Int) = (↑v : Int) := wU64 (by omega) (by omega); ?_))
  refine Sat.pLoop 3 (St.mk [((0 : Nat), AV.sref (Site.head (0 : Nat) (0 : Nat)) (0 : Nat) b.length), ((5 : Nat), AV.int IntKind.u64 (IntKind.u64.wrap (↑v : Int)))] [(Site.head (0 : Nat) (0 : Nat), Blk.row (1 : Nat) (List.map encB b) Bool.true Bool.true)]) (by kernel_rfl) (fun (p : Nat × List UInt8) => ⟨[(0, .sref (.head 0 0) 0 p.2.length), (5, .int .u64 p.1)], [(.head 0 0, .row 1 (p.2.map encB) true true)]⟩) (fun p => p.1 ≤ 1000000000 ∧ p.2.length ≤ 90005 ∧ p.2 ++ numB p.1 = b ++ numB v) (fun p => p.1) (v, b) (by (simp [*]; done)) ?_ ?_
  · exact ⟨by omega, by simp; omega, rfl⟩
  · rintro ⟨w, acc⟩ hI again
    obtain ⟨h1, h2, h3⟩ := hI
    simp only at h1 h2 h3
    have h4 := congrArg List.length h3
    simp only [List.length_append] at h4
    have h5 : 0 < (numB w).length := by rw [numB]; split <;> simp
    refine (Sat.pIfE ((128 : Int) ≤ (↑w : Int)) ((128 : Nat) ≤ w) (by kernel_rfl) (by simp only [ciLe]) (fun _h17 =>
     (Sat.pIf ((acc.length + (1 : Nat)) * (1 : Nat) ≤ (140737488355328 : Nat)) (by kernel_rfl) (fun _h18 =>
     (Sat.pIfE (acc.length = (List.map encB acc).length) (True) (by kernel_rfl) (by simp only [List.length_map]) (fun _h19 => (Sat.pNodeT true (by kernel_rfl) rfl
     (have _w20 : IntKind.u8.wrap (↑w : Int) = (↑(u8w (↑w : Int)).toNat : Int) := u8w_eq _;
     (have _w21 : IntKind.u8.wrap (↑(BitVec.ofInt (8 : Nat) (↑(u8w (↑w : Int)).toNat : Int) ||| BitVec.ofInt (8 : Nat) (128 : Int)).toNat : Int) = (↑(BitVec.ofInt (8 : Nat) (↑(u8w (↑w : Int)).toNat : Int) ||| BitVec.ofInt (8 : Nat) (128 : Int)).toNat : Int) := wU8 (by omega) (by omega);
     (Sat.pAgainE (St.mk [((0 : Nat), AV.sref (Site.head (0 : Nat) (0 : Nat)) (0 : Nat) (acc.length + (1 : Nat))), ((5 : Nat), AV.int IntKind.u64 ((↑w : Int).fdiv ((2 : Int) ^ (7 : Nat))))] [(Site.head (0 : Nat) (0 : Nat), Blk.row (1 : Nat) (List.map encB acc ++ [AV.int IntKind.u8 (IntKind.u8.wrap (↑(BitVec.ofInt (8 : Nat) (IntKind.u8.wrap (↑w : Int)) ||| BitVec.ofInt (8 : Nat) (128 : Int)).toNat : Int))]) Bool.true Bool.true)]) (by kernel_rfl) ?_ (again ((((↑w : Int).fdiv ((2 : Int) ^ (7 : Nat))).toNat, acc ++ [UInt8.ofNat (BitVec.ofInt (8 : Nat) (↑(u8w (↑w : Int)).toNat : Int) ||| BitVec.ofInt (8 : Nat) (128 : Int)).toNat])) ⟨?_, ⟨(by show (acc ++ [UInt8.ofNat (BitVec.ofInt (8 : Nat) (↑(u8w (↑w : Int)).toNat : Int) ||| BitVec.ofInt (8 : Nat) (128 : Int)).toNat]).length ≤ (90005 : Nat); (clear again; (simp; omega))), ?_⟩⟩ ?_))))))
     (fun _h19 => (_h19 trivial).elim))) (fun _h18 => False.elim (by omega)))) (fun _h17 => (Sat.pIf ((acc.length + (1 : Nat)) * (1 : Nat) ≤ (140737488355328 : Nat)) (by kernel_rfl) (fun _h22 =>
     (Sat.pIfE (acc.length = (List.map encB acc).length) (True) (by kernel_rfl) (by simp only [List.length_map]) (fun _h23 =>
     (have _w24 : IntKind.u8.wrap (↑w : Int) = (↑w : Int) := wU8 (by omega) (by omega);
     (Sat.pRet (Res.mk (AV.sref (Site.out (0 : Nat)) (0 : Nat) (acc.length + (1 : Nat))) [] [Blk.row (1 : Nat) (List.map encB acc ++ [AV.int IntKind.u8 (IntKind.u8.wrap (↑w : Int))]) Bool.true Bool.true]) (by kernel_rfl) (by (clear again; (rw [← h3, numB_small (by omega)]; simp [encB]; omega))))))
     (fun _h23 => (_h23 trivial).elim))) (fun _h22 => False.elim (by omega)))))
    · simp only [encB, List.map_append, List.map_cons, List.map_nil, List.length_append, List.length_cons, List.length_nil, or128w, fd7, Int.toNat_natCast, Nat.zero_add]
    · simp only [fd7]; omega
    · simp only [fd7, or128, Int.toNat_natCast]; rw [numB_big (by omega)] at h3; simpa using h3
    · simp only [fd7]; omega
theorem c23 (b : List UInt8) (v : Int) (hb : b.length ≤ 90000) (h0 : 0 ≤ v) (hv : v ≤ 1000000000) : X.call 23 [.tree (b.map encB), .int .i64 v] [] ⟨.sref (.out 0) 0 (b ++ numB v.toNat).length, [], [.row 1 ((b ++ numB v.toNat).map encB) true true]⟩ ∧ (b ++ numB v.toNat).length ≤ b.length + 5 := by
  obtain ⟨n, rfl⟩ := Int.eq_ofNat_of_zero_le h0
  exact ⟨pputNum_call b n hb (by omega), by have := numB_len n (by omega); simp only [List.length_append, Int.toNat_natCast]; omega⟩
theorem pputText_call (b s : List UInt8) (hb : b.length ≤ 80000) (hs : s.length ≤ 80000) : X.call 24 [.tree (b.map encB), .str s] [] ⟨.sref (.out 0) 0 (b ++ textB s).length, [], [.row 1 ((b ++ textB s).map encB) true true]⟩ := by
  have hn := numB_len s.length (by omega)
  unfold textB
  refine spec_of ok Go.Proofs.Tryz.func24 ok24 ?_
  refine (have _hc6 := ((@Go.Ab.Tryz.c23 (b) ((↑s.length : Int)) (by omega) (by omega) (by omega))).2;
   (have _hn7 : b.length + (numB s.length).length ≤ b.length + (5 : Nat) := Iff.mp (by simp only [List.length_append, Int.toNat_natCast]) _hc6;
   (Sat.pCallE 23 ([AV.tree (List.map encB b), AV.int IntKind.i64 (↑s.length : Int)]) ([]) (by kernel_rfl) rfl rfl ((@Go.Ab.Tryz.c23 (b) ((↑s.length : Int)) (by omega) (by omega) (by omega))).1
   (Sat.pIfE (((b ++ numB (↑s.length : Int).toNat).length + (List.map (fun (c : UInt8) => AV.int IntKind.u8 (↑c.toNat : Int)) s).length) * (1 : Nat) ≤ (140737488355328 : Nat)) ((b.length + (numB s.length).length + s.length) * (1 : Nat) ≤ (140737488355328 : Nat)) (by kernel_rfl) (by simp only [List.length_map, List.length_append, Int.toNat_natCast])
   (fun _h8 => (Sat.pIfE ((b ++ numB (↑s.length : Int).toNat).length = (List.map encB (b ++ numB (↑s.length : Int).toNat)).length) (True) (by kernel_rfl) (by simp only [List.length_map]) (fun _h9 =>
   (Sat.pRet (Res.mk (AV.sref (Site.out (0 : Nat)) (0 : Nat) ((b ++ numB (↑s.length : Int).toNat).length + (List.map (fun (c : UInt8) => AV.int IntKind.u8 (↑c.toNat : Int)) s).length)) [] [Blk.row (1 : Nat) (List.map encB (b ++ numB (↑s.length : Int).toNat) ++ List.map (fun (c : UInt8) => AV.int IntKind.u8 (↑c.toNat : Int)) s) Bool.true Bool.true]) (by kernel_rfl) (by (simp [encB_fun, Nat.add_assoc]; done))))
   (fun _h9 => (_h9 trivial).elim))) (fun _h8 => False.elim (by omega))))))
theorem c24 (b s : List UInt8) (hb : b.length ≤ 80000) (hs : s.length ≤ 80000) : X.call 24 [.tree (b.map encB), .str s] [] ⟨.sref (.out 0) 0 (b ++ textB s).length, [], [.row 1 ((b ++ textB s).map encB) true true]⟩ ∧ (b ++ textB s).length ≤ b.length + 5 + s.length :=
  ⟨pputText_call b s hb hs, by have := numB_len s.length (by omega); simp only [textB, List.length_append]; omega⟩
theorem c54 (s : List UInt8) (n most : Int) (h1 : 1 ≤ n) (h2 : n ≤ most) : X.call 54 [.str s, .int .i64 n, .int .i64 most] [] ⟨.nili, [], []⟩ := by
  refine spec_of ok Go.Proofs.Tryz.func54 ok54 ?_
  refine (Sat.pIf (n < (1 : Int)) (by kernel_rfl) (fun _h6 => False.elim (by omega)) (fun _h6 => (Sat.pIfEF (n < (1 : Int)) (n < (1 : Int)) (by kernel_rfl) Iff.rfl _h6
   (Sat.pIfEF (n < (1 : Int)) (n < (1 : Int)) (by kernel_rfl) Iff.rfl _h6 (Sat.pIfEF (n < (1 : Int)) (n < (1 : Int)) (by kernel_rfl) Iff.rfl _h6 (Sat.pIf (most < n) (by kernel_rfl)
   (fun _h7 => False.elim (by omega)) (fun _h7 => (Sat.pRet (Res.mk AV.nili [] []) (by kernel_rfl) rfl))))))))
theorem c50 (s : Stamp) (h : s.may = true) : X.call 50 [encStamp s] [] ⟨.nili, [], []⟩ := by
  simp only [Stamp.may, decide_eq_true_eq] at h
  refine spec_of ok Go.Proofs.Tryz.func50 ok50 ?_
  refine
   (Sat.pCallE 54 ([AV.str [(116 : UInt8), (105 : UInt8), (109 : UInt8), (101 : UInt8)], AV.int IntKind.i64 s.L, AV.int IntKind.i64 (5000 : Int)]) ([]) (by kernel_rfl) rfl rfl (@Go.Ab.Tryz.c54 ([(116 : UInt8), (105 : UInt8), (109 : UInt8), (101 : UInt8)]) (s.L) ((5000 : Int)) (by omega) (by omega))
   (Sat.pCallE 54 ([AV.str [(114 : UInt8), (101 : UInt8), (112 : UInt8), (108 : UInt8), (105 : UInt8), (99 : UInt8), (97 : UInt8)], AV.int IntKind.i64 s.R, AV.int IntKind.i64 (5 : Int)]) ([]) (by kernel_rfl) rfl rfl (@Go.Ab.Tryz.c54 ([(114 : UInt8), (101 : UInt8), (112 : UInt8), (108 : UInt8), (105 : UInt8), (99 : UInt8), (97 : UInt8)]) (s.R) ((5 : Int)) (by omega) (by omega))
   (Sat.pCallE 54 ([AV.str [(110 : UInt8), (117 : UInt8), (109 : UInt8), (98 : UInt8), (101 : UInt8), (114 : UInt8)], AV.int IntKind.i64 s.N, AV.int IntKind.i64 (if (1000 : Int) < s.L then (1000 : Int) else s.L)]) ([]) (by kernel_rfl) rfl rfl (@Go.Ab.Tryz.c54 ([(110 : UInt8), (117 : UInt8), (109 : UInt8), (98 : UInt8), (101 : UInt8), (114 : UInt8)]) (s.N) (if (1000 : Int) < s.L then (1000 : Int) else s.L) (by omega) (by omega))
   (Sat.pCallE 53 ([AV.tree [AV.nili, AV.nili, AV.nili]]) ([]) (by kernel_rfl) rfl rfl (ev_ok envOk 1000 (53) ([AV.tree [AV.nili, AV.nili, AV.nili]]) ([]) (Res.mk AV.nili [] []) (by kernel_rfl))
   (Sat.pRet (Res.mk AV.nili [] []) (by kernel_rfl) rfl)))))
theorem c45 (s : Stamp) (h : s.may = true) : X.call 45 [encStamp s] [] ⟨.bool true, [], []⟩ := by
  refine spec_of ok Go.Proofs.Tryz.func45 ok45 ?_
  refine (Sat.pCallE 50 ([AV.agg [AV.int IntKind.i64 s.L, AV.int IntKind.i64 s.R, AV.int IntKind.i64 s.N]]) ([]) (by kernel_rfl) rfl rfl (@Go.Ab.Tryz.c50 (s) (by assumption))
   (Sat.pCallE 49 ([AV.nili, AV.iface (118 : Nat) (AV.agg [])]) ([]) (by kernel_rfl) rfl rfl (ev_ok envOk 1000 (49) ([AV.nili, AV.iface (118 : Nat) (AV.agg [])]) ([]) (Res.mk (AV.bool Bool.false) [] []) (by kernel_rfl))
   (Sat.pRet (Res.mk (AV.bool !Bool.false) [] []) (by kernel_rfl) rfl)))
theorem c46 (l : List Attr) (hl : l.length ≤ 100000) : X.call 46 [.tree (l.map encAttr)] [] ⟨.bool (attrsMay (-1) l && decide (l.length ≤ 3)), [], []⟩ := by
  refine spec_of ok Go.Proofs.Tryz.func46 ok46 ?_
  refine ?_
  refine Sat.pLoop 3 (St.mk [((0 : Nat), AV.tree (List.map encAttr l)), ((3 : Nat), AV.int IntKind.i64 (-1 : Int)), ((6 : Nat), AV.tree (List.map encAttr l)), ((7 : Nat), AV.int IntKind.i64 (↑(List.map encAttr l).length : Int)), ((8 : Nat), AV.int IntKind.i64 (0 : Int))] []) (by kernel_rfl) (fun (k : Nat) => ⟨[(0, .tree (l.map encAttr)), (3, .int .i64 (lastA l k)), (6, .tree (l.map encAttr)), (7, .int .i64 l.length), (8, .int .i64 k)], []⟩) (fun k => k ≤ l.length ∧ attrsMay (-1) l = attrsMay (lastA l k) (l.drop k)) (fun k => l.length - k) 0 (by (simp [lastA]; done)) ?_ ?_
  · simp [lastA]
  · intro k hI again
    have hk := hI.1
    have hs := hI.2
    clear hI
    refine (Sat.pIfE ((↑k : Int) < (↑l.length : Int)) (k < l.length) (by kernel_rfl) (by simp only [Int.ofNat_lt]) (fun _h8 => (Sat.pNodeT true (by kernel_rfl) rfl
     (Sat.pElemM (encAttr) (l) (List.map encAttr l) (k) (by kernel_rfl) rfl (by assumption) (fun _x9 _hx10 => (Sat.pIf (_x9.Key ≤ lastA l k) (by kernel_rfl) (fun _h11 =>
     (Sat.pIfET (_x9.Key ≤ lastA l k) (_x9.Key ≤ lastA l k) (by kernel_rfl) Iff.rfl _h11 (Sat.pIfET (_x9.Key ≤ lastA l k) (_x9.Key ≤ lastA l k) (by kernel_rfl) Iff.rfl _h11
     (Sat.pIfET (_x9.Key ≤ lastA l k) (_x9.Key ≤ lastA l k) (by kernel_rfl) Iff.rfl _h11 (Sat.pNodeT true (by kernel_rfl) rfl (Sat.pNodeT true (by kernel_rfl) rfl (Sat.pNodeT true (by kernel_rfl) rfl
     (Sat.pNodeT true (by kernel_rfl) rfl (Sat.pNodeT true (by kernel_rfl) rfl (Sat.pNodeT true (by kernel_rfl) rfl (Sat.pNodeT true (by kernel_rfl) rfl (Sat.pNodeT true (by kernel_rfl) rfl
     (Sat.pNodeT true (by kernel_rfl) rfl
     (Sat.pRet (Res.mk (AV.bool Bool.false) [] []) (by kernel_rfl) (by (clear again; (rw [hs, drop_at (by assumption)]; simp only [attrsMay]; rw [decide_eq_false (by omega)]; rfl)))))))))))))))))
     (fun _h11 => (Sat.pIfEF (_x9.Key ≤ lastA l k) (_x9.Key ≤ lastA l k) (by kernel_rfl) Iff.rfl _h11 (Sat.pIfEF (_x9.Key ≤ lastA l k) (_x9.Key ≤ lastA l k) (by kernel_rfl) Iff.rfl _h11
     (Sat.pIfEF (_x9.Key ≤ lastA l k) (_x9.Key ≤ lastA l k) (by kernel_rfl) Iff.rfl _h11 (Sat.pIf ((4 : Int) ≤ _x9.Key) (by kernel_rfl) (fun _h12 =>
     (Sat.pIfET ((4 : Int) ≤ _x9.Key) ((4 : Int) ≤ _x9.Key) (by kernel_rfl) Iff.rfl _h12 (Sat.pIfET ((4 : Int) ≤ _x9.Key) ((4 : Int) ≤ _x9.Key) (by kernel_rfl) Iff.rfl _h12
     (Sat.pIfET ((4 : Int) ≤ _x9.Key) ((4 : Int) ≤ _x9.Key) (by kernel_rfl) Iff.rfl _h12 (Sat.pNodeT true (by kernel_rfl) rfl (Sat.pNodeT true (by kernel_rfl) rfl (Sat.pNodeT true (by kernel_rfl) rfl
     (Sat.pNodeT true (by kernel_rfl) rfl (Sat.pNodeT true (by kernel_rfl) rfl
     (Sat.pRet (Res.mk (AV.bool Bool.false) [] []) (by kernel_rfl) (by (clear again; (rw [hs, drop_at (by assumption)]; simp only [attrsMay]; rw [decide_eq_false (by omega)]; rfl))))))))))))) (fun _h12 =>
     (Sat.pIfEF ((4 : Int) ≤ _x9.Key) ((4 : Int) ≤ _x9.Key) (by kernel_rfl) Iff.rfl _h12 (Sat.pIfEF ((4 : Int) ≤ _x9.Key) ((4 : Int) ≤ _x9.Key) (by kernel_rfl) Iff.rfl _h12
     (Sat.pIfEF ((4 : Int) ≤ _x9.Key) ((4 : Int) ≤ _x9.Key) (by kernel_rfl) Iff.rfl _h12 (Sat.pIf (_x9.Val < (0 : Int)) (by kernel_rfl) (fun _h13 =>
     (Sat.pIfET (_x9.Val < (0 : Int)) (_x9.Val < (0 : Int)) (by kernel_rfl) Iff.rfl _h13 (Sat.pIfET (_x9.Val < (0 : Int)) (_x9.Val < (0 : Int)) (by kernel_rfl) Iff.rfl _h13
     (Sat.pIfET (_x9.Val < (0 : Int)) (_x9.Val < (0 : Int)) (by kernel_rfl) Iff.rfl _h13 (Sat.pNodeT true (by kernel_rfl) rfl
     (Sat.pRet (Res.mk (AV.bool Bool.false) [] []) (by kernel_rfl) (by (clear again; (rw [hs, drop_at (by assumption)]; simp only [attrsMay]; rw [decide_eq_false (by omega)]; rfl))))))))) (fun _h13 =>
     (Sat.pIfEF (_x9.Val < (0 : Int)) (_x9.Val < (0 : Int)) (by kernel_rfl) Iff.rfl _h13 (Sat.pIfEF (_x9.Val < (0 : Int)) (_x9.Val < (0 : Int)) (by kernel_rfl) Iff.rfl _h13
     (Sat.pIfEF (_x9.Val < (0 : Int)) (_x9.Val < (0 : Int)) (by kernel_rfl) Iff.rfl _h13 (Sat.pIf ((99 : Int) < _x9.Val) (by kernel_rfl) (fun _h14 =>
     (Sat.pRet (Res.mk (AV.bool Bool.false) [] []) (by kernel_rfl) (by (clear again; (rw [hs, drop_at (by assumption)]; simp only [attrsMay]; rw [decide_eq_false (by omega)]; rfl))))) (fun _h14 =>
     (have _w15 : IntKind.i64.wrap ((↑k : Int) + (1 : Int)) = (↑k : Int) + (1 : Int) := wI64 (by omega) (by omega);
     (Sat.pAgainE (St.mk [((0 : Nat), AV.tree (List.map encAttr l)), ((3 : Nat), AV.int IntKind.i64 _x9.Key), ((6 : Nat), AV.tree (List.map encAttr l)), ((7 : Nat), AV.int IntKind.i64 (↑l.length : Int)), ((8 : Nat), AV.int IntKind.i64 (IntKind.i64.wrap ((↑k : Int) + (1 : Int))))] []) (by kernel_rfl) (by (clear again; (rw [drop_at (by assumption)] at hs; simp_all [attrsMay, lastA]; done))) (again (k + (1 : Nat)) ⟨(by omega), (by (clear again; (rw [drop_at (by assumption)] at hs; simp_all [attrsMay, lastA]; done)))⟩ (by omega)))))))))))))))))))))))))
     (fun _h8 =>
     (Sat.pRet (Res.mk (AV.bool (decide ((↑(List.map encAttr l).length : Int) ≤ (3 : Int)))) [] []) (by kernel_rfl) (by (clear again; (rw [hs, List.drop_of_length_le (by omega)]; simp only [attrsMay, Bool.true_and, List.length_map, Res.mk.injEq, AV.bool.injEq, and_true]; congr 1; exact propext (by omega)))))))
theorem c47 (s : List UInt8) (h : s ∈ tags) : X.call 47 [.str s] [] ⟨.bool true, [], []⟩ := by
  simp only [tags, List.mem_cons, List.not_mem_nil, or_false] at h
  rcases h with rfl | rfl | rfl | rfl | rfl | rfl <;> exact ev_ok envOk 1000 _ _ _ _ (by kernel_rfl)
theorem c38 (v : Version) (h : v.may = true) (ht : v.Tag ∈ tags) : X.call 38 [encVersion v] [] ⟨.nili, [], []⟩ := by
  have f := Version.may_fit h
  have hs := h
  unfold Version.may at hs
  simp only [Bool.and_eq_true, decide_eq_true_eq] at hs
  refine spec_of ok Go.Proofs.Tryz.func38 ok38 ?_
  refine (Sat.pIf (v.Item < (1 : Int)) (by kernel_rfl) (fun _h7 => False.elim (by omega)) (fun _h7 => (Sat.pIfEF (v.Item < (1 : Int)) (v.Item < (1 : Int)) (by kernel_rfl) Iff.rfl _h7
   (Sat.pIfEF (v.Item < (1 : Int)) (v.Item < (1 : Int)) (by kernel_rfl) Iff.rfl _h7 (Sat.pIfEF (v.Item < (1 : Int)) (v.Item < (1 : Int)) (by kernel_rfl) Iff.rfl _h7
   (Sat.pIf ((6 : Int) < v.Item) (by kernel_rfl) (fun _h8 => False.elim (by omega)) (fun _h8 =>
   (Sat.pCallE 45 ([AV.agg [AV.int IntKind.i64 v.S.L, AV.int IntKind.i64 v.S.R, AV.int IntKind.i64 v.S.N]]) ([]) (by kernel_rfl) rfl rfl (@Go.Ab.Tryz.c45 (v.S) (by exact hs.1.1.1.1.1.2))
   (Sat.pNodeF false (by kernel_rfl) rfl (Sat.pCallE 46 ([AV.tree (List.map encAttr v.Attrs)]) ([]) (by kernel_rfl) rfl rfl (@Go.Ab.Tryz.c46 (v.Attrs) (by omega))
   (Sat.pNodeEN (attrsMay (-1 : Int) v.Attrs && decide (v.Attrs.length ≤ (3 : Nat))) (attrsMay (-1 : Int) v.Attrs = Bool.true ∧ v.Attrs.length ≤ (3 : Nat)) (by kernel_rfl) (by simp only [Bool.and_eq_true, decide_eq_true_eq])
   (fun _h9 =>
   (Sat.pRet (Res.mk (AV.iface (108 : Nat) (AV.agg [AV.iface (86 : Nat) (AV.agg [AV.str [(97 : UInt8), (116 : UInt8), (116 : UInt8), (114 : UInt8), (105 : UInt8), (98 : UInt8), (117 : UInt8), (116 : UInt8), (101 : UInt8), (115 : UInt8)]]).cptr])) [] []) (by kernel_rfl) (by simp_all)))
   (fun _h9 => (Sat.pCallE 47 ([AV.str v.Tag]) ([]) (by kernel_rfl) rfl rfl (@Go.Ab.Tryz.c47 (v.Tag) (by assumption)) (Sat.pNodeF false (by kernel_rfl) rfl
   (Sat.pIfE ((12 : Int) < (↑v.Body.length : Int)) ((12 : Nat) < v.Body.length) (by kernel_rfl) (by simp only [ciLt]) (fun _h10 => False.elim (by omega)) (fun _h10 =>
   (Sat.pIfEF ((12 : Int) < (↑v.Body.length : Int)) ((12 : Nat) < v.Body.length) (by kernel_rfl) (by simp only [ciLt]) _h10
   (Sat.pIfEF ((12 : Int) < (↑v.Body.length : Int)) ((12 : Nat) < v.Body.length) (by kernel_rfl) (by simp only [ciLt]) _h10 (Sat.pNode (v.Dead) (by kernel_rfl) (fun _h11 =>
   (Sat.pNodeT (v.Dead) (by kernel_rfl) _h11 (Sat.pNodeT (v.Dead) (by kernel_rfl) _h11
   (Sat.pIfEF ((12 : Int) < (↑v.Body.length : Int)) ((12 : Nat) < v.Body.length) (by kernel_rfl) (by simp only [ciLt]) _h10 (Sat.pNodeT (v.Dead) (by kernel_rfl) _h11
   (Sat.pIfEF ((12 : Int) < (↑v.Body.length : Int)) ((12 : Nat) < v.Body.length) (by kernel_rfl) (by simp only [ciLt]) _h10 (Sat.pIfN (v.Body = []) (by kernel_rfl) (fun _h12 =>
   (Sat.pRet (Res.mk (AV.iface (108 : Nat) (AV.agg [AV.iface (86 : Nat) (AV.agg [AV.str [(98 : UInt8), (111 : UInt8), (100 : UInt8), (121 : UInt8)]]).cptr])) [] []) (by kernel_rfl) (by simp_all)))
   (fun _h12 => (Sat.pRet (Res.mk AV.nili [] []) (by kernel_rfl) rfl))))))))) (fun _h11 => (Sat.pNodeF (v.Dead) (by kernel_rfl) _h11 (Sat.pNodeF (v.Dead) (by kernel_rfl) _h11
   (Sat.pIfEF ((12 : Int) < (↑v.Body.length : Int)) ((12 : Nat) < v.Body.length) (by kernel_rfl) (by simp only [ciLt]) _h10 (Sat.pNodeF (v.Dead) (by kernel_rfl) _h11
   (Sat.pIfEF ((12 : Int) < (↑v.Body.length : Int)) ((12 : Nat) < v.Body.length) (by kernel_rfl) (by simp only [ciLt]) _h10 (Sat.pNodeF false (by kernel_rfl) rfl
   (Sat.pRet (Res.mk AV.nili [] []) (by kernel_rfl) rfl)))))))))))))))))))))))))))
theorem c22 (v : Version) (h : v.may = true) (ht : v.Tag ∈ tags) : X.call 22 [encVersion v] [] ⟨.bool true, [], []⟩ := by
  refine spec_of ok Go.Proofs.Tryz.func22 ok22 ?_
  refine
   (Sat.pCallE 38 ([AV.agg [AV.int IntKind.i64 v.Item, AV.int IntKind.i64 v.S.L, AV.int IntKind.i64 v.S.R, AV.int IntKind.i64 v.S.N, AV.bool v.Dead, AV.tree (List.map encAttr v.Attrs), AV.str v.Tag, AV.str v.Body]]) ([]) (by kernel_rfl) rfl rfl (@Go.Ab.Tryz.c38 (v) (by assumption) (by assumption))
   (Sat.pCallE 18 ([AV.nili, AV.iface (88 : Nat) (AV.ref (Site.inc (0 : Nat)) (0 : Nat) (0 : Nat))]) ([Blk.box AV.nilp Bool.true]) (by kernel_rfl) rfl rfl (ev_ok envOk 1000 (18) ([AV.nili, AV.iface (88 : Nat) (AV.ref (Site.inc (0 : Nat)) (0 : Nat) (0 : Nat))]) ([Blk.box AV.nilp Bool.true]) (Res.mk (AV.bool Bool.false) [Blk.box AV.nilp Bool.true] []) (by kernel_rfl))
   (Sat.pRet (Res.mk (AV.bool !Bool.false) [] []) (by kernel_rfl) rfl)))
end Go.Ab.Tryz
