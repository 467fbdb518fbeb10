/- Package cardamomplay, its numbers: as plain Lean. -/
import Derived.Test.YtmppanboolejjaaDoorAbEnc
import Derived.Test.YtmppanboolejjaaDoorAb
namespace Go.Ab.Tryd
open Go
set_option maxRecDepth 100000
set_option maxHeartbeats 4000000
theorem c8 (l : List UInt8) : X.call 8 [.tree (l.map encB)] [] ⟨.ref (.out 0) 0 0, [], [.box (encPicks ⟨l, 0⟩) true]⟩ := by
  refine spec_of ok Go.Proofs.Tryd.func8 ok8 ?_
  refine (Sat.pRet (Res.mk (AV.ref (Site.out (0 : Nat)) (0 : Nat) (0 : Nat)) [] [Blk.box (AV.agg [AV.tree (List.map encB l), AV.int IntKind.i64 (0 : Int)]) Bool.true]) (by kernel_rfl) rfl)
theorem num_call (p : Picks) (m : Int) (hp : p.l.length ≤ 100000) (hm : m ≤ 100000) :
    X.call 15 [.ref (.inc 0) 0 0, .int .i64 m] [.box (encPicks p) true] ⟨.int .i64 (p.num m).1, [.box (encPicks (p.num m).2) true], []⟩ := by
  refine spec_of ok Go.Proofs.Tryd.func15 ok15 ?_
  refine (Sat.pIfE ((↑(List.map encB p.l).length : Int) ≤ (↑p.n : Int)) (p.l.length ≤ p.n) (by kernel_rfl) (by simp only [List.length_map, Int.ofNat_le]) (fun _h5 =>
   (Sat.pIfET ((↑(List.map encB p.l).length : Int) ≤ (↑p.n : Int)) (p.l.length ≤ p.n) (by kernel_rfl) (by simp only [List.length_map, Int.ofNat_le]) _h5
   (Sat.pIfET ((↑(List.map encB p.l).length : Int) ≤ (↑p.n : Int)) (p.l.length ≤ p.n) (by kernel_rfl) (by simp only [List.length_map, Int.ofNat_le]) _h5 (Sat.pNodeT true (by kernel_rfl) rfl
   (Sat.pRet (Res.mk (AV.int IntKind.i64 (0 : Int)) [Blk.box (AV.agg [AV.tree (List.map encB p.l), AV.int IntKind.i64 (↑p.n : Int)]) Bool.true] []) (by kernel_rfl) (by (simp_all [Picks.num, encPicks, List.getD]; done)))))))
   (fun _h5 => (Sat.pIfEF ((↑(List.map encB p.l).length : Int) ≤ (↑p.n : Int)) (p.l.length ≤ p.n) (by kernel_rfl) (by simp only [List.length_map, Int.ofNat_le]) _h5
   (Sat.pIfEF ((↑(List.map encB p.l).length : Int) ≤ (↑p.n : Int)) (p.l.length ≤ p.n) (by kernel_rfl) (by simp only [List.length_map, Int.ofNat_le]) _h5 (Sat.pIf (m < (1 : Int)) (by kernel_rfl)
   (fun _h6 =>
   (Sat.pRet (Res.mk (AV.int IntKind.i64 (0 : Int)) [Blk.box (AV.agg [AV.tree (List.map encB p.l), AV.int IntKind.i64 (↑p.n : Int)]) Bool.true] []) (by kernel_rfl) (by (simp_all [Picks.num, encPicks, List.getD]; done))))
   (fun _h6 => (have _w7 : IntKind.i64.wrap ((↑p.n : Int) + (1 : Int)) = (↑p.n : Int) + (1 : Int) := wI64 (by omega) (by omega);
   (have _w8 : IntKind.i64.wrap ((↑p.n : Int) + (1 : Int) - (1 : Int)) = (↑p.n : Int) + (1 : Int) - (1 : Int) := wI64 (by omega) (by omega);
   (Sat.pIfE ((0 : Int) ≤ IntKind.i64.wrap (IntKind.i64.wrap ((↑p.n : Int) + (1 : Int)) - (1 : Int))) ((0 : Int) ≤ (↑p.n : Int) + (1 : Int) - (1 : Int)) (by kernel_rfl) (by simp only [_w8, _w7])
   (fun _h9 =>
   (Sat.pElemME (encB) (p.l) (List.map encB p.l) ((IntKind.i64.wrap (IntKind.i64.wrap ((↑p.n : Int) + (1 : Int)) - (1 : Int))).toNat) (((↑p.n : Int) + (1 : Int) - (1 : Int)).toNat) (by kernel_rfl) (by simp only [_w8, _w7]) rfl (by omega)
   (fun _x10 _hx11 => (Sat.pIfE (m ≠ (0 : Int)) (¬m = (0 : Int)) (by kernel_rfl) (by simp only []) (fun _h12 => (have _u13 : _x10.toNat < (256 : Nat) := UInt8.toNat_lt _;
   (have _w14 : IntKind.i64.wrap (↑_x10.toNat : Int) = (↑_x10.toNat : Int) := wI64 (by omega) (by omega);
   (have _w15 : (↑_x10.toNat : Int).tmod m = (↑_x10.toNat : Int) % m := Int.tmod_eq_emod_of_nonneg (by omega);
   (have _w16 : (0 : Int) ≤ (↑_x10.toNat : Int) % m ∧ (↑_x10.toNat : Int) % m < m := ⟨Int.emod_nonneg _ (by omega), Int.emod_lt_of_pos _ (by omega)⟩;
   (Sat.pRet (Res.mk (AV.int IntKind.i64 ((IntKind.i64.wrap (↑_x10.toNat : Int)).tmod m)) [Blk.box (AV.agg [AV.tree (List.map encB p.l), AV.int IntKind.i64 (IntKind.i64.wrap ((↑p.n : Int) + (1 : Int)))]) Bool.true] []) (by kernel_rfl) (by grind [Picks.num, encPicks])))))))
   (fun _h12 => False.elim (by omega)))))) (fun _h9 => False.elim (by omega)))))))))))
theorem c15 (p : Picks) (m : Int) (hp : p.l.length ≤ 100000) (hm : m ≤ 100000) (h1 : 1 ≤ m) :
    X.call 15 [.ref (.inc 0) 0 0, .int .i64 m] [.box (encPicks p) true] ⟨.int .i64 (p.num m).1, [.box (encPicks (p.num m).2) true], []⟩ ∧ (0 ≤ (p.num m).1 ∧ (p.num m).1 < m ∧ (p.num m).2.l = p.l) :=
  ⟨num_call p m hp hm, p.num_eq h1⟩
theorem c18 (p : Picks) (hp : p.l.length ≤ 100000) :
    X.call 18 [.ref (.inc 0) 0 0] [.box (encPicks p) true] ⟨.str p.tag.1, [.box (encPicks p.tag.2) true], []⟩ := by
  refine spec_of ok Go.Proofs.Tryd.func18 ok18 ?_
  refine (have _hc3 := ((@Go.Ab.Tryd.c15 (p) ((6 : Int)) (by assumption) (by omega) (by omega))).2;
   (Sat.pCallE 15 ([AV.ref (Site.inc (0 : Nat)) (0 : Nat) (0 : Nat), AV.int IntKind.i64 (6 : Int)]) ([Blk.box (AV.agg [AV.tree (List.map encB p.l), AV.int IntKind.i64 (↑p.n : Int)]) Bool.true]) (by kernel_rfl) rfl rfl ((@Go.Ab.Tryd.c15 (p) ((6 : Int)) (by assumption) (by omega) (by omega))).1
   (Sat.pIf ((0 : Int) ≤ (p.num (6 : Int)).fst ∧ (p.num (6 : Int)).fst < (6 : Int)) (by kernel_rfl) (fun _h4 =>
   (Sat.pElemM (AV.str) ([[], [(97 : UInt8)], [(97 : UInt8), (98 : UInt8)], [(97 : UInt8), (98 : UInt8), (99 : UInt8)], [(98 : UInt8)], [(98 : UInt8), (97 : UInt8)]]) ([AV.str [], AV.str [(97 : UInt8)], AV.str [(97 : UInt8), (98 : UInt8)], AV.str [(97 : UInt8), (98 : UInt8), (99 : UInt8)], AV.str [(98 : UInt8)], AV.str [(98 : UInt8), (97 : UInt8)]]) ((p.num (6 : Int)).fst.toNat) (by kernel_rfl) rfl (by (simp; omega))
   (fun _x5 _hx6 =>
   (Sat.pRet (Res.mk (AV.str _x5) [Blk.box (AV.agg [AV.tree (List.map encB (p.num (6 : Int)).snd.l), AV.int IntKind.i64 (↑(p.num (6 : Int)).snd.n : Int)]) Bool.true] []) (by kernel_rfl) (by (simp_all [Picks.tag, tags, encPicks]; done))))))
   (fun _h4 => False.elim (by omega)))))
theorem c16 (p : Picks) (hp : p.l.length ≤ 100000) :
    X.call 16 [.ref (.inc 0) 0 0] [.box (encPicks p) true] ⟨encStamp p.stamp.1, [.box (encPicks p.stamp.2) true], []⟩ := by
  refine spec_of ok Go.Proofs.Tryd.func16 ok16 ?_
  refine (have _hc3 := ((@Go.Ab.Tryd.c15 (p) ((9 : Int)) (by assumption) (by omega) (by omega))).2;
   (Sat.pCallE 15 ([AV.ref (Site.inc (0 : Nat)) (0 : Nat) (0 : Nat), AV.int IntKind.i64 (9 : Int)]) ([Blk.box (AV.agg [AV.tree (List.map encB p.l), AV.int IntKind.i64 (↑p.n : Int)]) Bool.true]) (by kernel_rfl) rfl rfl ((@Go.Ab.Tryd.c15 (p) ((9 : Int)) (by assumption) (by omega) (by omega))).1
   (have _hc4 := ((@Go.Ab.Tryd.c15 ((p.num (9 : Int)).snd) ((3 : Int)) (by (simp_all [Picks.stamp, encStamp, encPicks]; done)) (by omega) (by omega))).2;
   (Sat.pCallE 15 ([AV.ref (Site.inc (0 : Nat)) (0 : Nat) (0 : Nat), AV.int IntKind.i64 (3 : Int)]) ([Blk.box (AV.agg [AV.tree (List.map encB (p.num (9 : Int)).snd.l), AV.int IntKind.i64 (↑(p.num (9 : Int)).snd.n : Int)]) Bool.true]) (by kernel_rfl) rfl rfl ((@Go.Ab.Tryd.c15 ((p.num (9 : Int)).snd) ((3 : Int)) (by (simp_all [Picks.stamp, encStamp, encPicks]; done)) (by omega) (by omega))).1
   (have _w5 : IntKind.i64.wrap ((1 : Int) + (p.num (9 : Int)).fst) = (1 : Int) + (p.num (9 : Int)).fst := wI64 (by omega) (by omega);
   (have _hc6 := ((@Go.Ab.Tryd.c15 (((p.num (9 : Int)).snd.num (3 : Int)).snd) ((1 : Int) + (p.num (9 : Int)).fst) (by (simp_all [Picks.stamp, encStamp, encPicks]; done)) (by omega) (by omega))).2;
   (Sat.pCallE 15 ([AV.ref (Site.inc (0 : Nat)) (0 : Nat) (0 : Nat), AV.int IntKind.i64 (IntKind.i64.wrap ((1 : Int) + (p.num (9 : Int)).fst))]) ([Blk.box (AV.agg [AV.tree (List.map encB ((p.num (9 : Int)).snd.num (3 : Int)).snd.l), AV.int IntKind.i64 (↑((p.num (9 : Int)).snd.num (3 : Int)).snd.n : Int)]) Bool.true]) (by kernel_rfl) (by simp only [_w5]) rfl ((@Go.Ab.Tryd.c15 (((p.num (9 : Int)).snd.num (3 : Int)).snd) ((1 : Int) + (p.num (9 : Int)).fst) (by (simp_all [Picks.stamp, encStamp, encPicks]; done)) (by omega) (by omega))).1
   (have _w7 : IntKind.i64.wrap ((1 : Int) + ((p.num (9 : Int)).snd.num (3 : Int)).fst) = (1 : Int) + ((p.num (9 : Int)).snd.num (3 : Int)).fst := wI64 (by omega) (by omega);
   (have _w8 : IntKind.i64.wrap ((1 : Int) + (((p.num (9 : Int)).snd.num (3 : Int)).snd.num ((1 : Int) + (p.num (9 : Int)).fst)).fst) = (1 : Int) + (((p.num (9 : Int)).snd.num (3 : Int)).snd.num ((1 : Int) + (p.num (9 : Int)).fst)).fst := wI64 (by omega) (by omega);
   (Sat.pRet (Res.mk (AV.agg [AV.int IntKind.i64 (IntKind.i64.wrap ((1 : Int) + (p.num (9 : Int)).fst)), AV.int IntKind.i64 (IntKind.i64.wrap ((1 : Int) + ((p.num (9 : Int)).snd.num (3 : Int)).fst)), AV.int IntKind.i64 (IntKind.i64.wrap ((1 : Int) + (((p.num (9 : Int)).snd.num (3 : Int)).snd.num ((1 : Int) + (p.num (9 : Int)).fst)).fst))]) [Blk.box (AV.agg [AV.tree (List.map encB (((p.num (9 : Int)).snd.num (3 : Int)).snd.num ((1 : Int) + (p.num (9 : Int)).fst)).snd.l), AV.int IntKind.i64 (↑(((p.num (9 : Int)).snd.num (3 : Int)).snd.num ((1 : Int) + (p.num (9 : Int)).fst)).snd.n : Int)]) Bool.true] []) (by kernel_rfl) (by (simp_all [Picks.stamp, encStamp, encPicks]; done))))))))))))
theorem c17 (p : Picks) (hp : p.l.length ≤ 100000) :
    X.call 17 [.ref (.inc 0) 0 0] [.box (encPicks p) true] ⟨.tree (p.attrs.1.map encAttr), [.box (encPicks p.attrs.2) true], []⟩ := by
  refine spec_of ok Go.Proofs.Tryd.func17 ok17 ?_
  refine ?_
  refine Sat.pLoop 3 (St.mk [((0 : Nat), AV.ref (Site.inc (0 : Nat)) (0 : Nat) (0 : Nat)), ((3 : Nat), AV.sref (Site.head (3 : Nat) (0 : Nat)) (0 : Nat) (0 : Nat)), ((4 : Nat), AV.int IntKind.i64 (0 : Int))] [(Site.inc (0 : Nat), Blk.box (AV.agg [AV.tree (List.map encB p.l), AV.int IntKind.i64 (↑p.n : Int)]) Bool.true), (Site.head (3 : Nat) (0 : Nat), Blk.row (2 : Nat) [] Bool.true Bool.true)]) (by kernel_rfl)
   (fun (s : Nat × Picks × List Attr) => ⟨[(0, .ref (.inc 0) 0 0), (3, .sref (.head 3 0) 0 s.2.2.length), (4, .int .i64 s.1)], [(.inc 0, .box (encPicks s.2.1) true), (.head 3 0, .row 2 (s.2.2.map encAttr) true true)]⟩)
   (fun s => s.1 ≤ 4 ∧ s.2.2.length ≤ 3 ∧ s.2.1.l = p.l ∧ p.attrs = s.2.1.attrsAt (5 - s.1) s.1 s.2.2) (fun s => 5 - s.1) (0, p, []) rfl ?_ ?_
  · exact ⟨by omega, by simp, rfl, rfl⟩
  · rintro ⟨k, q, l⟩ hI again
    obtain ⟨hk, hl, hq, hs⟩ := hI
    simp only at hk hl hq hs
    have hql : q.l.length ≤ 100000 := by rw [hq]; exact hp
    obtain ⟨f, hf⟩ : ∃ f, 5 - k = f + 1 := ⟨4 - k, by omega⟩
    rw [hf] at hs
    have hf2 : 5 - (k + 1) = f := by omega
    have hf3 : 4 - k = f := by omega
    refine (Sat.pIfE ((↑k : Int) < (4 : Int)) (k < (4 : Nat)) (by kernel_rfl) (by simp only [icLt]) (fun _h18 =>
     (Sat.pIfET ((↑k : Int) < (4 : Int)) (k < (4 : Nat)) (by kernel_rfl) (by simp only [icLt]) _h18 (Sat.pIfET ((↑k : Int) < (4 : Int)) (k < (4 : Nat)) (by kernel_rfl) (by simp only [icLt]) _h18
     (Sat.pIfET ((↑k : Int) < (4 : Int)) (k < (4 : Nat)) (by kernel_rfl) (by simp only [icLt]) _h18 (Sat.pIfE ((↑l.length : Int) < (3 : Int)) (l.length < (3 : Nat)) (by kernel_rfl) (by simp only [icLt])
     (fun _h19 => (have _hc20 := ((@Go.Ab.Tryd.c15 (q) ((2 : Int)) (by assumption) (by omega) (by omega))).2;
     (Sat.pCallE 15 ([AV.ref (Site.inc (0 : Nat)) (0 : Nat) (0 : Nat), AV.int IntKind.i64 (2 : Int)]) ([Blk.box (AV.agg [AV.tree (List.map encB q.l), AV.int IntKind.i64 (↑q.n : Int)]) Bool.true]) (by kernel_rfl) rfl rfl ((@Go.Ab.Tryd.c15 (q) ((2 : Int)) (by assumption) (by omega) (by omega))).1
     (Sat.pIf ((q.num (2 : Int)).fst = (0 : Int)) (by kernel_rfl) (fun _h21 =>
     (have _hc22 := ((@Go.Ab.Tryd.c15 ((q.num (2 : Int)).snd) ((6 : Int)) (by (clear again; (simp only [Picks.num_l]; omega))) (by omega) (by omega))).2;
     (Sat.pCallE 15 ([AV.ref (Site.inc (0 : Nat)) (0 : Nat) (0 : Nat), AV.int IntKind.i64 (6 : Int)]) ([Blk.box (AV.agg [AV.tree (List.map encB (q.num (2 : Int)).snd.l), AV.int IntKind.i64 (↑(q.num (2 : Int)).snd.n : Int)]) Bool.true]) (by kernel_rfl) rfl rfl ((@Go.Ab.Tryd.c15 ((q.num (2 : Int)).snd) ((6 : Int)) (by (clear again; (simp only [Picks.num_l]; omega))) (by omega) (by omega))).1
     (Sat.pIf ((0 : Int) ≤ ((q.num (2 : Int)).snd.num (6 : Int)).fst ∧ ((q.num (2 : Int)).snd.num (6 : Int)).fst < (6 : Int)) (by kernel_rfl) (fun _h23 =>
     (Sat.pElemM (AV.int IntKind.i64) ([(0 : Int), (1 : Int), (5 : Int), (7 : Int), (50 : Int), (99 : Int)]) ([AV.int IntKind.i64 (0 : Int), AV.int IntKind.i64 (1 : Int), AV.int IntKind.i64 (5 : Int), AV.int IntKind.i64 (7 : Int), AV.int IntKind.i64 (50 : Int), AV.int IntKind.i64 (99 : Int)]) (((q.num (2 : Int)).snd.num (6 : Int)).fst.toNat) (by kernel_rfl) rfl (by (clear again; (simp; omega)))
     (fun _x24 _hx25 => (Sat.pIf ((l.length + (1 : Nat)) * (16 : Nat) ≤ (140737488355328 : Nat)) (by kernel_rfl) (fun _h26 =>
     (Sat.pIfE (l.length = (List.map encAttr l).length) (True) (by kernel_rfl) (by simp only [List.length_map]) (fun _h27 =>
     (have _w28 : IntKind.i64.wrap ((↑k : Int) + (1 : Int)) = (↑k : Int) + (1 : Int) := wI64 (by omega) (by omega);
     (Sat.pAgainE (St.mk [((0 : Nat), AV.ref (Site.inc (0 : Nat)) (0 : Nat) (0 : Nat)), ((3 : Nat), AV.sref (Site.head (3 : Nat) (0 : Nat)) (0 : Nat) (l.length + (1 : Nat))), ((4 : Nat), AV.int IntKind.i64 (IntKind.i64.wrap ((↑k : Int) + (1 : Int))))] [(Site.inc (0 : Nat), Blk.box (AV.agg [AV.tree (List.map encB ((q.num (2 : Int)).snd.num (6 : Int)).snd.l), AV.int IntKind.i64 (↑((q.num (2 : Int)).snd.num (6 : Int)).snd.n : Int)]) Bool.true), (Site.head (3 : Nat) (0 : Nat), Blk.row (2 : Nat) (List.map encAttr l ++ [AV.agg [AV.int IntKind.i64 (↑k : Int), AV.int IntKind.i64 _x24]]) Bool.true Bool.true)]) (by kernel_rfl) (by simp [encPicks, encAttr, _w28]) (again ((k + (1 : Nat), Picks.mk ((q.num (2 : Int)).snd.num (6 : Int)).2.l ((q.num (2 : Int)).snd.num (6 : Int)).2.n, l ++ [Attr.mk (↑k : Int) _x24])) ?_ (by omega)))))
     (fun _h27 => (_h27 trivial).elim))) (fun _h26 => False.elim (by omega)))))) (fun _h23 => False.elim (by omega)))))) (fun _h21 =>
     (have _w29 : IntKind.i64.wrap ((↑k : Int) + (1 : Int)) = (↑k : Int) + (1 : Int) := wI64 (by omega) (by omega);
     (Sat.pAgainE (St.mk [((0 : Nat), AV.ref (Site.inc (0 : Nat)) (0 : Nat) (0 : Nat)), ((3 : Nat), AV.sref (Site.head (3 : Nat) (0 : Nat)) (0 : Nat) l.length), ((4 : Nat), AV.int IntKind.i64 (IntKind.i64.wrap ((↑k : Int) + (1 : Int))))] [(Site.inc (0 : Nat), Blk.box (AV.agg [AV.tree (List.map encB (q.num (2 : Int)).snd.l), AV.int IntKind.i64 (↑(q.num (2 : Int)).snd.n : Int)]) Bool.true), (Site.head (3 : Nat) (0 : Nat), Blk.row (2 : Nat) (List.map encAttr l) Bool.true Bool.true)]) (by kernel_rfl) (by simp [encPicks, _w29]) (again ((k + (1 : Nat), Picks.mk (q.num (2 : Int)).2.l (q.num (2 : Int)).2.n, l)) ?_ (by omega)))))))))
     (fun _h19 => (have _w30 : List.take l.length (List.map encAttr l) = List.map encAttr l := List.take_of_length_le (by simp);
     (Sat.pRet (Res.mk (AV.tree (List.take l.length (List.map encAttr l))) [Blk.box (AV.agg [AV.tree (List.map encB q.l), AV.int IntKind.i64 (↑q.n : Int)]) Bool.true] []) (by kernel_rfl) ?_))))))))
     (fun _h18 => (Sat.pIfEF ((↑k : Int) < (4 : Int)) (k < (4 : Nat)) (by kernel_rfl) (by simp only [icLt]) _h18
     (Sat.pIfEF ((↑k : Int) < (4 : Int)) (k < (4 : Nat)) (by kernel_rfl) (by simp only [icLt]) _h18 (Sat.pIfEF ((↑k : Int) < (4 : Int)) (k < (4 : Nat)) (by kernel_rfl) (by simp only [icLt]) _h18
     (Sat.pNodeF false (by kernel_rfl) rfl (have _w31 : List.take l.length (List.map encAttr l) = List.map encAttr l := List.take_of_length_le (by simp);
     (Sat.pRet (Res.mk (AV.tree (List.take l.length (List.map encAttr l))) [Blk.box (AV.agg [AV.tree (List.map encB q.l), AV.int IntKind.i64 (↑q.n : Int)]) Bool.true] []) (by kernel_rfl) ?_))))))))
    · exact ⟨by omega, by simp; omega, by simp only [Picks.num_l]; exact hq, by rw [hs]; simp [Picks.attrsAt, _h18, _h19, _h21, hf3, attrVals, List.getD, _hx25]⟩
    · exact ⟨by omega, by simp; omega, by simp only [Picks.num_l]; exact hq, by rw [hs]; simp [Picks.attrsAt, _h18, _h19, _h21, hf3]⟩
    · rw [_w30, hs]; simp [Picks.attrsAt, _h19, encPicks]
    · rw [_w31, hs]; simp [Picks.attrsAt, _h18, encPicks]
theorem c9 (p : Picks) (hp : p.l.length ≤ 100000) :
    X.call 9 [.ref (.inc 0) 0 0] [.box (encPicks p) true] ⟨encVersion p.version.1, [.box (encPicks p.version.2) true], []⟩ := by
  refine spec_of ok Go.Proofs.Tryd.func9 ok9 ?_
  refine (have _hc3 := ((@Go.Ab.Tryd.c15 (p) ((6 : Int)) (by assumption) (by omega) (by omega))).2;
   (Sat.pCallE 15 ([AV.ref (Site.inc (0 : Nat)) (0 : Nat) (0 : Nat), AV.int IntKind.i64 (6 : Int)]) ([Blk.box (AV.agg [AV.tree (List.map encB p.l), AV.int IntKind.i64 (↑p.n : Int)]) Bool.true]) (by kernel_rfl) rfl rfl ((@Go.Ab.Tryd.c15 (p) ((6 : Int)) (by assumption) (by omega) (by omega))).1
   (Sat.pCallE 16 ([AV.ref (Site.inc (0 : Nat)) (0 : Nat) (0 : Nat)]) ([Blk.box (AV.agg [AV.tree (List.map encB (p.num (6 : Int)).snd.l), AV.int IntKind.i64 (↑(p.num (6 : Int)).snd.n : Int)]) Bool.true]) (by kernel_rfl) rfl rfl (@Go.Ab.Tryd.c16 ((p.num (6 : Int)).snd) (by (simp only [Picks.num_l, Picks.stamp_l, Picks.attrs_l, Picks.tag_l]; omega)))
   (Sat.pCallE 17 ([AV.ref (Site.inc (0 : Nat)) (0 : Nat) (0 : Nat)]) ([Blk.box (AV.agg [AV.tree (List.map encB (p.num (6 : Int)).snd.stamp.snd.l), AV.int IntKind.i64 (↑(p.num (6 : Int)).snd.stamp.snd.n : Int)]) Bool.true]) (by kernel_rfl) rfl rfl (@Go.Ab.Tryd.c17 ((p.num (6 : Int)).snd.stamp.snd) (by (simp only [Picks.num_l, Picks.stamp_l, Picks.attrs_l, Picks.tag_l]; omega)))
   (Sat.pCallE 18 ([AV.ref (Site.inc (0 : Nat)) (0 : Nat) (0 : Nat)]) ([Blk.box (AV.agg [AV.tree (List.map encB (p.num (6 : Int)).snd.stamp.snd.attrs.snd.l), AV.int IntKind.i64 (↑(p.num (6 : Int)).snd.stamp.snd.attrs.snd.n : Int)]) Bool.true]) (by kernel_rfl) rfl rfl (@Go.Ab.Tryd.c18 ((p.num (6 : Int)).snd.stamp.snd.attrs.snd) (by (simp only [Picks.num_l, Picks.stamp_l, Picks.attrs_l, Picks.tag_l]; omega)))
   (have _hc4 := ((@Go.Ab.Tryd.c15 ((p.num (6 : Int)).snd.stamp.snd.attrs.snd.tag.snd) ((6 : Int)) (by (simp only [Picks.num_l, Picks.stamp_l, Picks.attrs_l, Picks.tag_l]; omega)) (by omega) (by omega))).2;
   (Sat.pCallE 15 ([AV.ref (Site.inc (0 : Nat)) (0 : Nat) (0 : Nat), AV.int IntKind.i64 (6 : Int)]) ([Blk.box (AV.agg [AV.tree (List.map encB (p.num (6 : Int)).snd.stamp.snd.attrs.snd.tag.snd.l), AV.int IntKind.i64 (↑(p.num (6 : Int)).snd.stamp.snd.attrs.snd.tag.snd.n : Int)]) Bool.true]) (by kernel_rfl) rfl rfl ((@Go.Ab.Tryd.c15 ((p.num (6 : Int)).snd.stamp.snd.attrs.snd.tag.snd) ((6 : Int)) (by (simp only [Picks.num_l, Picks.stamp_l, Picks.attrs_l, Picks.tag_l]; omega)) (by omega) (by omega))).1
   (Sat.pIfN (((p.num (6 : Int)).snd.stamp.snd.attrs.snd.tag.snd.num (6 : Int)).fst = (1 : Int)) (by kernel_rfl) (fun _h5 =>
   (have _hc6 := ((@Go.Ab.Tryd.c15 (((p.num (6 : Int)).snd.stamp.snd.attrs.snd.tag.snd.num (6 : Int)).snd) ((4 : Int)) (by (simp only [Picks.num_l, Picks.stamp_l, Picks.attrs_l, Picks.tag_l]; omega)) (by omega) (by omega))).2;
   (Sat.pCallE 15 ([AV.ref (Site.inc (0 : Nat)) (0 : Nat) (0 : Nat), AV.int IntKind.i64 (4 : Int)]) ([Blk.box (AV.agg [AV.tree (List.map encB ((p.num (6 : Int)).snd.stamp.snd.attrs.snd.tag.snd.num (6 : Int)).snd.l), AV.int IntKind.i64 (↑((p.num (6 : Int)).snd.stamp.snd.attrs.snd.tag.snd.num (6 : Int)).snd.n : Int)]) Bool.true]) (by kernel_rfl) rfl rfl ((@Go.Ab.Tryd.c15 (((p.num (6 : Int)).snd.stamp.snd.attrs.snd.tag.snd.num (6 : Int)).snd) ((4 : Int)) (by (simp only [Picks.num_l, Picks.stamp_l, Picks.attrs_l, Picks.tag_l]; omega)) (by omega) (by omega))).1
   (Sat.pIf ((0 : Int) ≤ (((p.num (6 : Int)).snd.stamp.snd.attrs.snd.tag.snd.num (6 : Int)).snd.num (4 : Int)).fst ∧ (((p.num (6 : Int)).snd.stamp.snd.attrs.snd.tag.snd.num (6 : Int)).snd.num (4 : Int)).fst < (4 : Int)) (by kernel_rfl)
   (fun _h7 =>
   (Sat.pElemM (AV.str) ([[], [(120 : UInt8)], [(98 : UInt8), (111 : UInt8), (100 : UInt8), (121 : UInt8)], [(97 : UInt8), (32 : UInt8), (98 : UInt8), (111 : UInt8), (100 : UInt8), (121 : UInt8), (32 : UInt8), (111 : UInt8), (102 : UInt8), (32 : UInt8), (49 : UInt8), (50 : UInt8)]]) ([AV.str [], AV.str [(120 : UInt8)], AV.str [(98 : UInt8), (111 : UInt8), (100 : UInt8), (121 : UInt8)], AV.str [(97 : UInt8), (32 : UInt8), (98 : UInt8), (111 : UInt8), (100 : UInt8), (121 : UInt8), (32 : UInt8), (111 : UInt8), (102 : UInt8), (32 : UInt8), (49 : UInt8), (50 : UInt8)]]) ((((p.num (6 : Int)).snd.stamp.snd.attrs.snd.tag.snd.num (6 : Int)).snd.num (4 : Int)).fst.toNat) (by kernel_rfl) rfl (by (simp; omega))
   (fun _x8 _hx9 => (have _w10 : IntKind.i64.wrap ((1 : Int) + (p.num (6 : Int)).fst) = (1 : Int) + (p.num (6 : Int)).fst := wI64 (by omega) (by omega);
   (Sat.pRet (Res.mk (AV.agg [AV.int IntKind.i64 (IntKind.i64.wrap ((1 : Int) + (p.num (6 : Int)).fst)), AV.int IntKind.i64 (p.num (6 : Int)).snd.stamp.fst.L, AV.int IntKind.i64 (p.num (6 : Int)).snd.stamp.fst.R, AV.int IntKind.i64 (p.num (6 : Int)).snd.stamp.fst.N, AV.bool (decide (((p.num (6 : Int)).snd.stamp.snd.attrs.snd.tag.snd.num (6 : Int)).fst = (1 : Int))), AV.tree (List.map encAttr (p.num (6 : Int)).snd.stamp.snd.attrs.fst), AV.str (p.num (6 : Int)).snd.stamp.snd.attrs.snd.tag.fst, AV.str _x8]) [Blk.box (AV.agg [AV.tree (List.map encB (((p.num (6 : Int)).snd.stamp.snd.attrs.snd.tag.snd.num (6 : Int)).snd.num (4 : Int)).snd.l), AV.int IntKind.i64 (↑(((p.num (6 : Int)).snd.stamp.snd.attrs.snd.tag.snd.num (6 : Int)).snd.num (4 : Int)).snd.n : Int)]) Bool.true] []) (by kernel_rfl) ?_)))))
   (fun _h7 => False.elim (by omega)))))) (fun _h5 => (have _w11 : IntKind.i64.wrap ((1 : Int) + (p.num (6 : Int)).fst) = (1 : Int) + (p.num (6 : Int)).fst := wI64 (by omega) (by omega);
   (Sat.pRet (Res.mk (AV.agg [AV.int IntKind.i64 (IntKind.i64.wrap ((1 : Int) + (p.num (6 : Int)).fst)), AV.int IntKind.i64 (p.num (6 : Int)).snd.stamp.fst.L, AV.int IntKind.i64 (p.num (6 : Int)).snd.stamp.fst.R, AV.int IntKind.i64 (p.num (6 : Int)).snd.stamp.fst.N, AV.bool (decide (((p.num (6 : Int)).snd.stamp.snd.attrs.snd.tag.snd.num (6 : Int)).fst = (1 : Int))), AV.tree (List.map encAttr (p.num (6 : Int)).snd.stamp.snd.attrs.fst), AV.str (p.num (6 : Int)).snd.stamp.snd.attrs.snd.tag.fst, AV.str []]) [Blk.box (AV.agg [AV.tree (List.map encB ((p.num (6 : Int)).snd.stamp.snd.attrs.snd.tag.snd.num (6 : Int)).snd.l), AV.int IntKind.i64 (↑((p.num (6 : Int)).snd.stamp.snd.attrs.snd.tag.snd.num (6 : Int)).snd.n : Int)]) Bool.true] []) (by kernel_rfl) ?_)))))))))))
  · simp only [Picks.version, if_neg _h5, encVersion, encPicks, bodies, List.getD, _w10, decide_eq_false _h5, _hx9, Option.getD_some, Res.mk.injEq, AV.agg.injEq, and_self]
  · simp only [Picks.version, if_pos _h5, encVersion, encPicks, _w11, decide_eq_true _h5, Res.mk.injEq, AV.agg.injEq, and_self]
end Go.Ab.Tryd
