/- Packages cardamomref11, cardamomplay, view: views, as plain Lean. -/
import Derived.Test.YtmkkhaonakdgpaaGreatDoorRef1e
import Derived.Test.YtmkkhaonakdgpaaGreatDoorPicks2
import Derived.Test.YtmkkhaonakdgpaaGreatDoorG3
namespace Go.Ab.Tryz
open Go
set_option maxRecDepth 100000
set_option maxHeartbeats 4000000
theorem view_eq (a b : View) : decide (a = b) = decide (a.R = b.R ∧ a.Rev = b.Rev ∧ a.Filter = b.Filter ∧ a.Seen = b.Seen ∧ a.Epochs = b.Epochs) := by
  congr 1; rw [View.ext_iff]
theorem c16 (a b : View) (h1 : a.Seen.length ≤ 100000) (h2 : a.Epochs.length ≤ 100000) : X.call 16 [encView a, encView b] [] ⟨.bool (decide (a = b)), [], []⟩ := by
  rw [view_eq]
  refine spec_of ok Go.Proofs.Tryz.func16 ok16 ?_
  refine (Sat.pIf (a.R = b.R) (by kernel_rfl) (fun _h5 => (Sat.pIfET (a.R = b.R) (a.R = b.R) (by kernel_rfl) Iff.rfl _h5 (Sat.pIfET (a.R = b.R) (a.R = b.R) (by kernel_rfl) Iff.rfl _h5
   (Sat.pIfET (a.R = b.R) (a.R = b.R) (by kernel_rfl) Iff.rfl _h5 (Sat.pIfET (a.R = b.R) (a.R = b.R) (by kernel_rfl) Iff.rfl _h5 (Sat.pIfET (a.R = b.R) (a.R = b.R) (by kernel_rfl) Iff.rfl _h5
   (Sat.pIf (a.Rev = b.Rev) (by kernel_rfl) (fun _h6 => (Sat.pIfET (a.Rev = b.Rev) (a.Rev = b.Rev) (by kernel_rfl) Iff.rfl _h6 (Sat.pIfET (a.Rev = b.Rev) (a.Rev = b.Rev) (by kernel_rfl) Iff.rfl _h6
   (Sat.pIfET (a.Rev = b.Rev) (a.Rev = b.Rev) (by kernel_rfl) Iff.rfl _h6 (Sat.pIfET (a.Rev = b.Rev) (a.Rev = b.Rev) (by kernel_rfl) Iff.rfl _h6
   (Sat.pIfET (a.Rev = b.Rev) (a.Rev = b.Rev) (by kernel_rfl) Iff.rfl _h6 (Sat.pIf (a.Filter = b.Filter) (by kernel_rfl) (fun _h7 =>
   (Sat.pIfET (a.Filter = b.Filter) (a.Filter = b.Filter) (by kernel_rfl) Iff.rfl _h7 (Sat.pIfET (a.Filter = b.Filter) (a.Filter = b.Filter) (by kernel_rfl) Iff.rfl _h7
   (Sat.pIfET (a.Filter = b.Filter) (a.Filter = b.Filter) (by kernel_rfl) Iff.rfl _h7 (Sat.pIfET (a.Filter = b.Filter) (a.Filter = b.Filter) (by kernel_rfl) Iff.rfl _h7
   (Sat.pCallE 48 ([AV.tree (List.map encHead a.Seen), AV.tree (List.map encHead b.Seen)]) ([]) (by kernel_rfl) rfl rfl (@Go.Ab.Tryz.c48 (a.Seen) (b.Seen) (by assumption))
   (Sat.pIfET (a.Filter = b.Filter) (a.Filter = b.Filter) (by kernel_rfl) Iff.rfl _h7 (Sat.pIf (a.Seen = b.Seen) (by kernel_rfl) (fun _h8 =>
   (Sat.pIfET (a.Seen = b.Seen) (a.Seen = b.Seen) (by kernel_rfl) Iff.rfl _h8 (Sat.pIfET (a.Seen = b.Seen) (a.Seen = b.Seen) (by kernel_rfl) Iff.rfl _h8
   (Sat.pIfET (a.Seen = b.Seen) (a.Seen = b.Seen) (by kernel_rfl) Iff.rfl _h8 (Sat.pIfET (a.Seen = b.Seen) (a.Seen = b.Seen) (by kernel_rfl) Iff.rfl _h8
   (Sat.pCallE 23 ([AV.tree (List.map encI a.Epochs), AV.tree (List.map encI b.Epochs)]) ([]) (by kernel_rfl) rfl rfl (@Go.Ab.Tryz.c23 (a.Epochs) (b.Epochs) (by assumption))
   (Sat.pIfET (a.Seen = b.Seen) (a.Seen = b.Seen) (by kernel_rfl) Iff.rfl _h8 (Sat.pRet (Res.mk (AV.bool (decide (a.Epochs = b.Epochs))) [] []) (by kernel_rfl) (by simp_all))))))))) (fun _h8 =>
   (Sat.pIfEF (a.Seen = b.Seen) (a.Seen = b.Seen) (by kernel_rfl) Iff.rfl _h8 (Sat.pIfEF (a.Seen = b.Seen) (a.Seen = b.Seen) (by kernel_rfl) Iff.rfl _h8
   (Sat.pIfEF (a.Seen = b.Seen) (a.Seen = b.Seen) (by kernel_rfl) Iff.rfl _h8 (Sat.pIfEF (a.Seen = b.Seen) (a.Seen = b.Seen) (by kernel_rfl) Iff.rfl _h8
   (Sat.pIfEF (a.Seen = b.Seen) (a.Seen = b.Seen) (by kernel_rfl) Iff.rfl _h8 (Sat.pRet (Res.mk (AV.bool Bool.false) [] []) (by kernel_rfl) (by simp_all)))))))))))))))) (fun _h7 =>
   (Sat.pIfEF (a.Filter = b.Filter) (a.Filter = b.Filter) (by kernel_rfl) Iff.rfl _h7 (Sat.pIfEF (a.Filter = b.Filter) (a.Filter = b.Filter) (by kernel_rfl) Iff.rfl _h7
   (Sat.pIfEF (a.Filter = b.Filter) (a.Filter = b.Filter) (by kernel_rfl) Iff.rfl _h7 (Sat.pIfEF (a.Filter = b.Filter) (a.Filter = b.Filter) (by kernel_rfl) Iff.rfl _h7
   (Sat.pIfEF (a.Filter = b.Filter) (a.Filter = b.Filter) (by kernel_rfl) Iff.rfl _h7 (Sat.pNodeF false (by kernel_rfl) rfl (Sat.pNodeF false (by kernel_rfl) rfl (Sat.pNodeF false (by kernel_rfl) rfl
   (Sat.pNodeF false (by kernel_rfl) rfl (Sat.pNodeF false (by kernel_rfl) rfl (Sat.pNodeF false (by kernel_rfl) rfl
   (Sat.pRet (Res.mk (AV.bool Bool.false) [] []) (by kernel_rfl) (by simp_all))))))))))))))))))))) (fun _h6 => (Sat.pIfEF (a.Rev = b.Rev) (a.Rev = b.Rev) (by kernel_rfl) Iff.rfl _h6
   (Sat.pIfEF (a.Rev = b.Rev) (a.Rev = b.Rev) (by kernel_rfl) Iff.rfl _h6 (Sat.pIfEF (a.Rev = b.Rev) (a.Rev = b.Rev) (by kernel_rfl) Iff.rfl _h6
   (Sat.pIfEF (a.Rev = b.Rev) (a.Rev = b.Rev) (by kernel_rfl) Iff.rfl _h6 (Sat.pIfEF (a.Rev = b.Rev) (a.Rev = b.Rev) (by kernel_rfl) Iff.rfl _h6 (Sat.pNodeF false (by kernel_rfl) rfl
   (Sat.pNodeF false (by kernel_rfl) rfl (Sat.pNodeF false (by kernel_rfl) rfl (Sat.pNodeF false (by kernel_rfl) rfl (Sat.pNodeF false (by kernel_rfl) rfl (Sat.pNodeF false (by kernel_rfl) rfl
   (Sat.pNodeF false (by kernel_rfl) rfl (Sat.pNodeF false (by kernel_rfl) rfl (Sat.pNodeF false (by kernel_rfl) rfl (Sat.pNodeF false (by kernel_rfl) rfl (Sat.pNodeF false (by kernel_rfl) rfl
   (Sat.pNodeF false (by kernel_rfl) rfl (Sat.pRet (Res.mk (AV.bool Bool.false) [] []) (by kernel_rfl) (by simp_all))))))))))))))))))))))))))) (fun _h5 =>
   (Sat.pIfEF (a.R = b.R) (a.R = b.R) (by kernel_rfl) Iff.rfl _h5 (Sat.pIfEF (a.R = b.R) (a.R = b.R) (by kernel_rfl) Iff.rfl _h5 (Sat.pIfEF (a.R = b.R) (a.R = b.R) (by kernel_rfl) Iff.rfl _h5
   (Sat.pIfEF (a.R = b.R) (a.R = b.R) (by kernel_rfl) Iff.rfl _h5 (Sat.pIfEF (a.R = b.R) (a.R = b.R) (by kernel_rfl) Iff.rfl _h5 (Sat.pNodeF false (by kernel_rfl) rfl (Sat.pNodeF false (by kernel_rfl) rfl
   (Sat.pNodeF false (by kernel_rfl) rfl (Sat.pNodeF false (by kernel_rfl) rfl (Sat.pNodeF false (by kernel_rfl) rfl (Sat.pNodeF false (by kernel_rfl) rfl (Sat.pNodeF false (by kernel_rfl) rfl
   (Sat.pNodeF false (by kernel_rfl) rfl (Sat.pNodeF false (by kernel_rfl) rfl (Sat.pNodeF false (by kernel_rfl) rfl (Sat.pNodeF false (by kernel_rfl) rfl (Sat.pNodeF false (by kernel_rfl) rfl
   (Sat.pNodeF false (by kernel_rfl) rfl (Sat.pNodeF false (by kernel_rfl) rfl (Sat.pNodeF false (by kernel_rfl) rfl (Sat.pNodeF false (by kernel_rfl) rfl (Sat.pNodeF false (by kernel_rfl) rfl
   (Sat.pNodeF false (by kernel_rfl) rfl (Sat.pRet (Res.mk (AV.bool Bool.false) [] []) (by kernel_rfl) (by simp_all)))))))))))))))))))))))))))
theorem c15 (a b : List View) (hl : a.length ≤ 100000) (h : ∀ v ∈ a, v.Seen.length ≤ 100000 ∧ v.Epochs.length ≤ 100000) : X.call 15 [.tree (a.map encView), .tree (b.map encView)] [] ⟨.bool (decide (a = b)), [], []⟩ := by
  refine spec_of ok Go.Proofs.Tryz.func15 ok15 ?_
  refine (Sat.pIfEN ((↑(List.map encView a).length : Int) = (↑(List.map encView b).length : Int)) (a.length = b.length) (by kernel_rfl) (by simp only [List.length_map, Int.natCast_inj]) (fun _h5 =>
   (Sat.pRet (Res.mk (AV.bool Bool.false) [] []) (by kernel_rfl) (by (simp; intro e; subst e; simp_all)))) (fun _h5 => ?_))
  refine Sat.pLoop 4 (St.mk [((0 : Nat), AV.tree (List.map encView a)), ((1 : Nat), AV.tree (List.map encView b)), ((5 : Nat), AV.int IntKind.i64 (0 : Int))] []) (by kernel_rfl) (fun (k : Nat) => ⟨[(0, .tree (a.map encView)), (1, .tree (b.map encView)), (5, .int .i64 k)], []⟩) (fun k => k ≤ a.length ∧ a.take k = b.take k) (fun k => a.length - k) 0 rfl ?_ ?_
  · simp
  · intro k hk again
    refine (Sat.pIfE ((↑k : Int) < (↑(List.map encView a).length : Int)) (k < a.length) (by kernel_rfl) (by simp only [List.length_map, Int.ofNat_lt]) (fun _h9 => (Sat.pNodeT true (by kernel_rfl) rfl
     (Sat.pElemM (encView) (a) (List.map encView a) (k) (by kernel_rfl) rfl (by assumption) (fun _x10 _hx11 => (have _hc12 := (h _x10 (List.mem_of_getElem? _hx11)).1;
     (have _hc13 := (h _x10 (List.mem_of_getElem? _hx11)).2; (Sat.pNodeT true (by kernel_rfl) rfl (Sat.pElemM (encView) (b) (List.map encView b) (k) (by kernel_rfl) rfl (by omega) (fun _x14 _hx15 =>
     (Sat.pCallE 16 ([AV.agg [AV.int IntKind.i64 _x10.R, AV.int IntKind.i64 _x10.Rev, AV.str _x10.Filter, AV.tree (List.map encHead _x10.Seen), AV.tree (List.map encI _x10.Epochs)], AV.agg [AV.int IntKind.i64 _x14.R, AV.int IntKind.i64 _x14.Rev, AV.str _x14.Filter, AV.tree (List.map encHead _x14.Seen), AV.tree (List.map encI _x14.Epochs)]]) ([]) (by kernel_rfl) rfl rfl (@Go.Ab.Tryz.c16 (_x10) (_x14) (by assumption) (by assumption))
     (Sat.pIfN (_x10 = _x14) (by kernel_rfl) (fun _h16 => (Sat.pRet (Res.mk (AV.bool Bool.false) [] []) (by kernel_rfl) (by (clear again; (simp; intro e; subst e; simp_all))))) (fun _h16 =>
     (have _w17 : IntKind.i64.wrap ((↑k : Int) + (1 : Int)) = (↑k : Int) + (1 : Int) := wI64 (by omega) (by omega);
     (Sat.pAgainE (St.mk [((0 : Nat), AV.tree (List.map encView a)), ((1 : Nat), AV.tree (List.map encView b)), ((5 : Nat), AV.int IntKind.i64 (IntKind.i64.wrap ((↑k : Int) + (1 : Int))))] []) (by kernel_rfl) (by simp [_w17]) (again (k + (1 : Nat)) (by (clear again; (refine ⟨by omega, ?_⟩; rw [take_succ (by assumption), take_succ (by assumption), hk.2]; simp_all))) (by omega))))))))))))))))
     (fun _h9 => (Sat.pRet (Res.mk (AV.bool Bool.true) [] []) (by kernel_rfl) (by (clear again; (rw [List.take_of_length_le (by omega), List.take_of_length_le (by omega)] at hk; simp_all))))))
theorem c95 (p : Picks) (hp : p.l.length ≤ 100000) : X.call 95 [.ref (.inc 0) 0 0] [.box (encPicks p) true] ⟨.bool (decide (p.l.length ≤ p.n)), [.box (encPicks p) true], []⟩ := by
  refine spec_of ok Go.Proofs.Tryz.func95 ok95 ?_
  refine
   (Sat.pRet (Res.mk (AV.bool (decide ((↑(List.map encB p.l).length : Int) ≤ (↑p.n : Int)))) [Blk.box (AV.agg [AV.tree (List.map encB p.l), AV.int IntKind.i64 (↑p.n : Int)]) Bool.true] []) (by kernel_rfl) (by (simp [encPicks, Int.ofNat_le]; done)))
theorem c45 (p : Picks) (hp : p.l.length ≤ 100000) : X.call 45 [.ref (.inc 0) 0 0] [.box (encPicks p) true] ⟨.str p.want.1, [.box (encPicks p.want.2) true], []⟩ := by
  refine spec_of ok Go.Proofs.Tryz.func45 ok45 ?_
  refine (have _hc3 := ((@Go.Ab.Tryz.c44 (p) ((10 : Int)) (by assumption) (by omega) (by omega))).2.1; (have _hc4 := ((@Go.Ab.Tryz.c44 (p) ((10 : Int)) (by assumption) (by omega) (by omega))).2.2.1;
   (have _hc5 := ((@Go.Ab.Tryz.c44 (p) ((10 : Int)) (by assumption) (by omega) (by omega))).2.2.2;
   (Sat.pCallE 44 ([AV.ref (Site.inc (0 : Nat)) (0 : Nat) (0 : Nat), AV.int IntKind.i64 (10 : Int)]) ([Blk.box (AV.agg [AV.tree (List.map encB p.l), AV.int IntKind.i64 (↑p.n : Int)]) Bool.true]) (by kernel_rfl) rfl rfl ((@Go.Ab.Tryz.c44 (p) ((10 : Int)) (by assumption) (by omega) (by omega))).1
   (Sat.pIf ((0 : Int) ≤ (p.num (10 : Int)).fst ∧ (p.num (10 : Int)).fst < (10 : Int)) (by kernel_rfl) (fun _h6 =>
   (Sat.pElemM (AV.str) ([[(42 : UInt8)], [(94 : UInt8), (97 : UInt8)], [(94 : UInt8), (98 : UInt8)], [(64 : UInt8), (49 : UInt8), (61 : UInt8), (53 : UInt8)], [(33 : UInt8), (94 : UInt8), (97 : UInt8)], [(64 : UInt8), (48 : UInt8), (58 : UInt8), (48 : UInt8), (45 : UInt8), (57 : UInt8)], [(33 : UInt8), (42 : UInt8)], [(64 : UInt8), (49 : UInt8), (61 : UInt8), (53 : UInt8), (38 : UInt8), (94 : UInt8), (97 : UInt8)], [(64 : UInt8), (49 : UInt8), (61 : UInt8), (53 : UInt8), (124 : UInt8), (94 : UInt8), (98 : UInt8)], [(33 : UInt8), (64 : UInt8), (49 : UInt8), (61 : UInt8), (53 : UInt8)]]) ([AV.str [(42 : UInt8)], AV.str [(94 : UInt8), (97 : UInt8)], AV.str [(94 : UInt8), (98 : UInt8)], AV.str [(64 : UInt8), (49 : UInt8), (61 : UInt8), (53 : UInt8)], AV.str [(33 : UInt8), (94 : UInt8), (97 : UInt8)], AV.str [(64 : UInt8), (48 : UInt8), (58 : UInt8), (48 : UInt8), (45 : UInt8), (57 : UInt8)], AV.str [(33 : UInt8), (42 : UInt8)], AV.str [(64 : UInt8), (49 : UInt8), (61 : UInt8), (53 : UInt8), (38 : UInt8), (94 : UInt8), (97 : UInt8)], AV.str [(64 : UInt8), (49 : UInt8), (61 : UInt8), (53 : UInt8), (124 : UInt8), (94 : UInt8), (98 : UInt8)], AV.str [(33 : UInt8), (64 : UInt8), (49 : UInt8), (61 : UInt8), (53 : UInt8)]]) ((p.num (10 : Int)).fst.toNat) (by kernel_rfl) rfl (by (simp; omega))
   (fun _x7 _hx8 =>
   (Sat.pRet (Res.mk (AV.str _x7) [Blk.box (AV.agg [AV.tree (List.map encB (p.num (10 : Int)).snd.l), AV.int IntKind.i64 (↑(p.num (10 : Int)).snd.n : Int)]) Bool.true] []) (by kernel_rfl) (by (simp_all [Picks.want, wants, encPicks]; done))))))
   (fun _h6 => False.elim (by omega)))))))
theorem c97 (l : List Head) (hl : l.length ≤ 1000) :
    X.call 97 [.tree (l.map encHead)] [] ⟨.sref (.out 0) 0 l.length, [], [.row 4 (l.map encHead) true true]⟩ := by
  refine spec_of ok Go.Proofs.Tryz.func97 ok97 ?_
  refine (Sat.pNodeE ((List.map encHead l).isEmpty) (l = []) (by kernel_rfl) (by simp only [List.isEmpty_map, List.isEmpty_iff]) (fun _h3 => (Sat.pAmb (by kernel_rfl) (Sat.pNodeT true (by kernel_rfl) rfl
   (Sat.pRet (Res.mk (AV.sref (Site.out (0 : Nat)) (0 : Nat) (0 : Nat)) [] [Blk.row (4 : Nat) [] Bool.true Bool.true]) (by kernel_rfl) (by simp_all))) (Sat.pNodeF false (by kernel_rfl) rfl
   (Sat.pEszM (encHead) (l) (List.map encHead l) (4) (by kernel_rfl) rfl (fun _ => rfl)
   (Sat.pIfE (((0 : Nat) + (List.map encHead l).length) * (32 : Nat) ≤ (140737488355328 : Nat)) (((0 : Nat) + l.length) * (32 : Nat) ≤ (140737488355328 : Nat)) (by kernel_rfl) (by simp only [List.length_map])
   (fun _h4 => (Sat.pNodeT true (by kernel_rfl) rfl
   (Sat.pRet (Res.mk (AV.sref (Site.out (0 : Nat)) (0 : Nat) ((0 : Nat) + (List.map encHead l).length)) [] [Blk.row (4 : Nat) (List.map encHead l) Bool.true Bool.true]) (by kernel_rfl) (by simp_all))))
   (fun _h4 => False.elim (by omega))))))) (fun _h3 => (Sat.pNodeF false (by kernel_rfl) rfl (Sat.pEszM (encHead) (l) (List.map encHead l) (4) (by kernel_rfl) rfl (fun _ => rfl)
   (Sat.pIfE (((0 : Nat) + (List.map encHead l).length) * (32 : Nat) ≤ (140737488355328 : Nat)) (((0 : Nat) + l.length) * (32 : Nat) ≤ (140737488355328 : Nat)) (by kernel_rfl) (by simp only [List.length_map])
   (fun _h5 => (Sat.pNodeT true (by kernel_rfl) rfl
   (Sat.pRet (Res.mk (AV.sref (Site.out (0 : Nat)) (0 : Nat) ((0 : Nat) + (List.map encHead l).length)) [] [Blk.row (4 : Nat) (List.map encHead l) Bool.true Bool.true]) (by kernel_rfl) (by simp_all))))
   (fun _h5 => False.elim (by omega)))))))
theorem c98 (l : List Int) (hl : l.length ≤ 1000) :
    X.call 98 [.tree (l.map encI)] [] ⟨.sref (.out 0) 0 l.length, [], [.row 1 (l.map encI) true true]⟩ := by
  refine spec_of ok Go.Proofs.Tryz.func98 ok98 ?_
  refine (Sat.pNodeE ((List.map encI l).isEmpty) (l = []) (by kernel_rfl) (by simp only [List.isEmpty_map, List.isEmpty_iff]) (fun _h3 => (Sat.pAmb (by kernel_rfl) (Sat.pNodeT true (by kernel_rfl) rfl
   (Sat.pRet (Res.mk (AV.sref (Site.out (0 : Nat)) (0 : Nat) (0 : Nat)) [] [Blk.row (1 : Nat) [] Bool.true Bool.true]) (by kernel_rfl) (by simp_all))) (Sat.pNodeF false (by kernel_rfl) rfl
   (Sat.pEszM (encI) (l) (List.map encI l) (1) (by kernel_rfl) rfl (fun _ => rfl)
   (Sat.pIfE (((0 : Nat) + (List.map encI l).length) * (8 : Nat) ≤ (140737488355328 : Nat)) (((0 : Nat) + l.length) * (8 : Nat) ≤ (140737488355328 : Nat)) (by kernel_rfl) (by simp only [List.length_map])
   (fun _h4 => (Sat.pNodeT true (by kernel_rfl) rfl
   (Sat.pRet (Res.mk (AV.sref (Site.out (0 : Nat)) (0 : Nat) ((0 : Nat) + (List.map encI l).length)) [] [Blk.row (1 : Nat) (List.map encI l) Bool.true Bool.true]) (by kernel_rfl) (by simp_all))))
   (fun _h4 => False.elim (by omega))))))) (fun _h3 => (Sat.pNodeF false (by kernel_rfl) rfl (Sat.pEszM (encI) (l) (List.map encI l) (1) (by kernel_rfl) rfl (fun _ => rfl)
   (Sat.pIfE (((0 : Nat) + (List.map encI l).length) * (8 : Nat) ≤ (140737488355328 : Nat)) (((0 : Nat) + l.length) * (8 : Nat) ≤ (140737488355328 : Nat)) (by kernel_rfl) (by simp only [List.length_map])
   (fun _h5 => (Sat.pNodeT true (by kernel_rfl) rfl
   (Sat.pRet (Res.mk (AV.sref (Site.out (0 : Nat)) (0 : Nat) ((0 : Nat) + (List.map encI l).length)) [] [Blk.row (1 : Nat) (List.map encI l) Bool.true Bool.true]) (by kernel_rfl) (by simp_all))))
   (fun _h5 => False.elim (by omega)))))))
theorem c47 (v : View) (h1 : v.Seen.length ≤ 1000) (h2 : v.Epochs.length ≤ 1000) : X.call 47 [encView v] [] ⟨encView v, [], []⟩ := by
  refine spec_of ok Go.Proofs.Tryz.func47 ok47 ?_
  refine (Sat.pCallE 97 ([AV.tree (List.map encHead v.Seen)]) ([]) (by kernel_rfl) rfl rfl (@Go.Ab.Tryz.c97 (v.Seen) (by assumption))
   (Sat.pCallE 98 ([AV.tree (List.map encI v.Epochs)]) ([]) (by kernel_rfl) rfl rfl (@Go.Ab.Tryz.c98 (v.Epochs) (by assumption))
   (have _w4 : List.take v.Seen.length (List.map encHead v.Seen) = List.map encHead v.Seen := List.take_of_length_le (by simp);
   (have _w5 : List.take v.Epochs.length (List.map encI v.Epochs) = List.map encI v.Epochs := List.take_of_length_le (by simp);
   (Sat.pRet (Res.mk (AV.agg [AV.int IntKind.i64 v.R, AV.int IntKind.i64 v.Rev, AV.str v.Filter, AV.tree (List.take v.Seen.length (List.map encHead v.Seen)), AV.tree (List.take v.Epochs.length (List.map encI v.Epochs))]) [] []) (by kernel_rfl) (by (simp [encView, List.take_of_length_le]; done)))))))
end Go.Ab.Tryz
