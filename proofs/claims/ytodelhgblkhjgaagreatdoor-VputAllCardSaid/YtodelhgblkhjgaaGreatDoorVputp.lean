/- Package vput: bytes with a version behind them, in general. -/
import Derived.Test.YtodelhgblkhjgaaGreatDoorVputk
import Derived.Test.YtodelhgblkhjgaaGreatDoorRef16za
namespace Go.Ab.Tryz
open Go
set_option maxRecDepth 100000
set_option maxHeartbeats 4000000
theorem put_pre (b : List UInt8) (hb0 : b.length ≤ 1000) (v : Version) (h : v.may = true) : X.call 10 [.tree (b.map encB), encVersion v] [] ⟨.tree ((putVers b v).map encB), [], []⟩ := by
  have f := Version.may_fit h
  have hal := f.al
  have htl := f.tl
  have hbl := f.bl
  refine spec_of ok Go.Proofs.Tryz.func10 ok10 ?_
  have again_l : ∀ d : Int, (d = if v.Dead then 1 else 0) → Sat X 10 (loopD X.cfg 10 Go.Proofs.Tryz.f10 0 9 ⟨[(0, .tree (b.map encB)), (3, .ref (.head 3 0) 0 0), (6, .sref (.head 6 0) 0 6), (37, .tree (v.Attrs.map encAttr)), (38, .int .i64 v.Attrs.length), (39, .int .i64 0)], [(.head 3 0, .box (encVersion v) true), (.head 6 0, .row 1 [.int .i64 v.Item, .int .i64 v.S.L, .int .i64 v.S.R, .int .i64 v.S.N, .int .i64 d, .int .i64 v.Attrs.length] true true)]⟩) (· = ⟨.tree ((putVers b v).map encB), [], []⟩) := by
    intro d hd
    refine Sat.pLoop 9 (St.mk [((0 : Nat), AV.tree (List.map encB b)), ((3 : Nat), AV.ref (Site.head (3 : Nat) (0 : Nat)) (0 : Nat) (0 : Nat)), ((6 : Nat), AV.sref (Site.head (6 : Nat) (0 : Nat)) (0 : Nat) (6 : Nat)), ((37 : Nat), AV.tree (List.map encAttr v.Attrs)), ((38 : Nat), AV.int IntKind.i64 (↑v.Attrs.length : Int)), ((39 : Nat), AV.int IntKind.i64 (0 : Int))] [(Site.head (3 : Nat) (0 : Nat), Blk.box (encVersion v) Bool.true), (Site.head (6 : Nat) (0 : Nat), Blk.row (1 : Nat) [AV.int IntKind.i64 v.Item, AV.int IntKind.i64 v.S.L, AV.int IntKind.i64 v.S.R, AV.int IntKind.i64 v.S.N, AV.int IntKind.i64 d, AV.int IntKind.i64 (↑v.Attrs.length : Int)] Bool.true Bool.true)]) (by kernel_rfl) (fun (k : Nat) => ⟨[(0, .tree (b.map encB)), (3, .ref (.head 3 0) 0 0), (6, .sref (.head 6 0) 0 (numsOf v d k).length), (37, .tree (v.Attrs.map encAttr)), (38, .int .i64 v.Attrs.length), (39, .int .i64 k)], [(.head 3 0, .box (encVersion v) true), (.head 6 0, .row 1 ((numsOf v d k).map encI) true true)]⟩) (fun k => k ≤ v.Attrs.length) (fun k => v.Attrs.length - k) 0 rfl ?_ ?_
    · omega
    · intro k hk again
      have hn := numsOf_len v d k
      refine (Sat.pIfE ((↑k : Int) < (↑v.Attrs.length : Int)) (k < v.Attrs.length) (by kernel_rfl) (by simp only [Int.ofNat_lt]) (fun _h15 => (Sat.pNodeT true (by kernel_rfl) rfl
       (Sat.pElemM (encAttr) (v.Attrs) (List.map encAttr v.Attrs) (k) (by kernel_rfl) rfl (by assumption) (fun _x16 _hx17 =>
       (Sat.pIf (((numsOf v d k).length + (2 : Nat)) * (8 : Nat) ≤ (140737488355328 : Nat)) (by kernel_rfl) (fun _h18 =>
       (Sat.pIfE ((numsOf v d k).length = (List.map encI (numsOf v d k)).length) (True) (by kernel_rfl) (by simp only [List.length_map]) (fun _h19 =>
       (have _w20 : IntKind.i64.wrap ((↑k : Int) + (1 : Int)) = (↑k : Int) + (1 : Int) := wI64 (by omega) (by omega);
       (Sat.pAgainE (St.mk [((0 : Nat), AV.tree (List.map encB b)), ((3 : Nat), AV.ref (Site.head (3 : Nat) (0 : Nat)) (0 : Nat) (0 : Nat)), ((6 : Nat), AV.sref (Site.head (6 : Nat) (0 : Nat)) (0 : Nat) ((numsOf v d k).length + (2 : Nat))), ((37 : Nat), AV.tree (List.map encAttr v.Attrs)), ((38 : Nat), AV.int IntKind.i64 (↑v.Attrs.length : Int)), ((39 : Nat), AV.int IntKind.i64 (IntKind.i64.wrap ((↑k : Int) + (1 : Int))))] [(Site.head (3 : Nat) (0 : Nat), Blk.box (AV.agg [AV.int IntKind.i64 v.Item, AV.int IntKind.i64 v.S.L, AV.int IntKind.i64 v.S.R, AV.int IntKind.i64 v.S.N, AV.bool v.Dead, AV.tree (List.map encAttr v.Attrs), AV.str v.Tag, AV.str v.Body]) Bool.true), (Site.head (6 : Nat) (0 : Nat), Blk.row (1 : Nat) (List.map encI (numsOf v d k) ++ [AV.int IntKind.i64 _x16.Key, AV.int IntKind.i64 _x16.Val]) Bool.true Bool.true)]) (by kernel_rfl) (by (clear again; (rw [numsOf_succ (by assumption)]; simp [encI, encVersion, *]; done))) (again (k + (1 : Nat)) (by omega) (by omega)))))
       (fun _h19 => (_h19 trivial).elim))) (fun _h18 => False.elim (by omega))))))) (fun _h15 => ?_))
      have hkk : k = v.Attrs.length := by omega
      subst hkk
      have hin := numsOf_in (d := d) (k := v.Attrs.length) f (by rw [hd]; split <;> omega) (by rw [hd]; split <;> omega)
      have hall := numsB_all v d hd
      generalize numsOf v d v.Attrs.length = nums at *
      refine Sat.pLoop 14 (St.mk [((0 : Nat), AV.tree (List.map encB b)), ((3 : Nat), AV.ref (Site.head (3 : Nat) (0 : Nat)) (0 : Nat) (0 : Nat)), ((51 : Nat), AV.sref (Site.head (51 : Nat) (0 : Nat)) (0 : Nat) nums.length), ((52 : Nat), AV.int IntKind.i64 (↑nums.length : Int)), ((53 : Nat), AV.int IntKind.i64 (0 : Int))] [(Site.head (3 : Nat) (0 : Nat), Blk.box (AV.agg [AV.int IntKind.i64 v.Item, AV.int IntKind.i64 v.S.L, AV.int IntKind.i64 v.S.R, AV.int IntKind.i64 v.S.N, AV.bool v.Dead, AV.tree (List.map encAttr v.Attrs), AV.str v.Tag, AV.str v.Body]) Bool.true), (Site.head (51 : Nat) (0 : Nat), Blk.row (1 : Nat) (List.map encI nums) Bool.true Bool.true)]) (by kernel_rfl) (fun (p : Nat × List UInt8) => ⟨[(0, .tree (p.2.map encB)), (3, .ref (.head 3 0) 0 0), (51, .sref (.head 51 0) 0 nums.length), (52, .int .i64 nums.length), (53, .int .i64 p.1)], [(.head 3 0, .box (encVersion v) true), (.head 51 0, .row 1 (nums.map encI) true true)]⟩) (fun p => p.1 ≤ nums.length ∧ p.2.length ≤ b.length + 5 * p.1 ∧ p.2 = b ++ numsB (nums.take p.1)) (fun p => nums.length - p.1) (0, b) rfl ?_ ?_
      · exact ⟨by omega, by simp, by simp [numsB]⟩
      · rintro ⟨j, acc⟩ hJ again2
        obtain ⟨j1, j2, j3⟩ := hJ
        simp only at j1 j2 j3
        refine (Sat.pIfE ((↑j : Int) < (↑nums.length : Int)) (j < nums.length) (by kernel_rfl) (by simp only [Int.ofNat_lt]) (fun _h26 =>
         (Sat.pIfE ((0 : Int) ≤ (↑j : Int) ∧ (↑j : Int) < (↑nums.length : Int)) ((0 : Nat) ≤ j ∧ j < nums.length) (by kernel_rfl) (by simp only [Int.ofNat_lt, ciLe]) (fun _h27 =>
         (Sat.pElemM (encI) (nums) (List.map encI nums) (j) (by kernel_rfl) rfl (by assumption) (fun _x28 _hx29 => (have _hc30 := (hin _x28 (List.mem_of_getElem? _hx29)).1;
         (have _hc31 := (hin _x28 (List.mem_of_getElem? _hx29)).2; (have _hc32 := ((@Go.Ab.Tryz.c23 (acc) (_x28) (by omega) (by assumption) (by omega))).2;
         (have _hn33 : acc.length + (numB _x28.toNat).length ≤ acc.length + (5 : Nat) := Iff.mp (by simp only [List.length_append]) _hc32;
         (Sat.pCallE 23 ([AV.tree (List.map encB acc), AV.int IntKind.i64 _x28]) ([]) (by kernel_rfl) rfl rfl ((@Go.Ab.Tryz.c23 (acc) (_x28) (by omega) (by assumption) (by omega))).1
         (have _w34 : List.take (acc ++ numB _x28.toNat).length (List.map encB (acc ++ numB _x28.toNat)) = List.map encB (acc ++ numB _x28.toNat) := List.take_of_length_le (by simp);
         (have _w35 : IntKind.i64.wrap ((↑j : Int) + (1 : Int)) = (↑j : Int) + (1 : Int) := wI64 (by omega) (by omega);
         (Sat.pAgainE (St.mk [((0 : Nat), AV.tree (List.take (acc ++ numB _x28.toNat).length (List.map encB (acc ++ numB _x28.toNat)))), ((3 : Nat), AV.ref (Site.head (3 : Nat) (0 : Nat)) (0 : Nat) (0 : Nat)), ((51 : Nat), AV.sref (Site.head (51 : Nat) (0 : Nat)) (0 : Nat) nums.length), ((52 : Nat), AV.int IntKind.i64 (↑nums.length : Int)), ((53 : Nat), AV.int IntKind.i64 (IntKind.i64.wrap ((↑j : Int) + (1 : Int))))] [(Site.head (3 : Nat) (0 : Nat), Blk.box (AV.agg [AV.int IntKind.i64 v.Item, AV.int IntKind.i64 v.S.L, AV.int IntKind.i64 v.S.R, AV.int IntKind.i64 v.S.N, AV.bool v.Dead, AV.tree (List.map encAttr v.Attrs), AV.str v.Tag, AV.str v.Body]) Bool.true), (Site.head (51 : Nat) (0 : Nat), Blk.row (1 : Nat) (List.map encI nums) Bool.true Bool.true)]) (by kernel_rfl) (by simp [List.take_of_length_le, encVersion, _w35]) (again2 ((j + (1 : Nat), acc ++ numB _x28.toNat)) ⟨(by show j + (1 : Nat) ≤ nums.length; omega), ⟨(by show (acc ++ numB _x28.toNat).length ≤ b.length + (5 : Nat) * (j + (1 : Nat)); omega), (by show acc ++ numB _x28.toNat = b ++ numsB (List.take (j + (1 : Nat)) nums); (clear again again2; (rw [numsB_succ (by assumption), j3, List.append_assoc]; done)))⟩⟩ (by show nums.length - (j + (1 : Nat)) < nums.length - j; omega)))))))))))))
         (fun _h27 => False.elim (by omega)))) (fun _h26 => (have _hc36 := ((@Go.Ab.Tryz.c24 (acc) (v.Tag) (by omega) (by omega))).2;
         (have _hn37 : acc.length + (textB v.Tag).length ≤ acc.length + (5 : Nat) + v.Tag.length := Iff.mp (by simp only [List.length_append]) _hc36;
         (Sat.pCallE 24 ([AV.tree (List.map encB acc), AV.str v.Tag]) ([]) (by kernel_rfl) rfl rfl ((@Go.Ab.Tryz.c24 (acc) (v.Tag) (by omega) (by omega))).1
         (have _w38 : List.take (acc ++ textB v.Tag).length (List.map encB (acc ++ textB v.Tag)) = List.map encB (acc ++ textB v.Tag) := List.take_of_length_le (by simp);
         (have _hc39 := ((@Go.Ab.Tryz.c24 (acc ++ textB v.Tag) (v.Body) (by omega) (by omega))).2;
         (have _hn40 : acc.length + (textB v.Tag).length + (textB v.Body).length ≤ acc.length + (textB v.Tag).length + (5 : Nat) + v.Body.length := Iff.mp (by simp only [List.length_append]) _hc39;
         (Sat.pCallE 24 ([AV.tree (List.take (acc ++ textB v.Tag).length (List.map encB (acc ++ textB v.Tag))), AV.str v.Body]) ([]) (by kernel_rfl) (by simp only [_w38]) rfl ((@Go.Ab.Tryz.c24 (acc ++ textB v.Tag) (v.Body) (by omega) (by omega))).1
         (have _w41 : List.take (acc ++ textB v.Tag ++ textB v.Body).length (List.map encB (acc ++ textB v.Tag ++ textB v.Body)) = List.map encB (acc ++ textB v.Tag ++ textB v.Body) := List.take_of_length_le (by simp);
         (Sat.pRet (Res.mk (AV.tree (List.take (acc ++ textB v.Tag ++ textB v.Body).length (List.map encB (acc ++ textB v.Tag ++ textB v.Body)))) [] []) (by kernel_rfl) (by (clear again again2; (rw [List.take_of_length_le (by omega), hall] at j3; simp [putVers, List.take_of_length_le, *]; done))))))))))))))
  refine (Sat.pEszM (encB) (b) (List.map encB b) (1) (by kernel_rfl) rfl (fun _ => rfl)
   (Sat.pIfE (((0 : Nat) + (List.map encB b).length) * (1 : Nat) ≤ (140737488355328 : Nat)) (((0 : Nat) + b.length) * (1 : Nat) ≤ (140737488355328 : Nat)) (by kernel_rfl) (by simp only [List.length_map])
   (fun _h10 => (Sat.pNodeT true (by kernel_rfl) rfl
   (Sat.pCallE 22 ([AV.agg [AV.int IntKind.i64 v.Item, AV.int IntKind.i64 v.S.L, AV.int IntKind.i64 v.S.R, AV.int IntKind.i64 v.S.N, AV.bool v.Dead, AV.tree (List.map encAttr v.Attrs), AV.str v.Tag, AV.str v.Body]]) ([]) (by kernel_rfl) rfl rfl (@Go.Ab.Tryz.c22a (v) (by omega) (by omega) (by omega))
   (Sat.pNodeF (!v.may) (by kernel_rfl) (by rw [h]; rfl) (Sat.pNode (v.Dead) (by kernel_rfl) (fun _h11 =>
   (have _w12 : List.take ((0 : Nat) + (List.map encB b).length) (List.map encB b) = List.map encB b := List.take_of_length_le (by simp);
   (Sat.pJoinE (L := loopD X.cfg (10 : FuncId) Proofs.Tryz.f10 (0 : Nat) (9 : Nat)) (St.mk [((0 : Nat), AV.tree (List.take ((0 : Nat) + (List.map encB b).length) (List.map encB b))), ((3 : Nat), AV.ref (Site.head (3 : Nat) (0 : Nat)) (0 : Nat) (0 : Nat)), ((6 : Nat), AV.sref (Site.head (6 : Nat) (0 : Nat)) (0 : Nat) (6 : Nat)), ((37 : Nat), AV.tree (List.map encAttr v.Attrs)), ((38 : Nat), AV.int IntKind.i64 (↑(List.map encAttr v.Attrs).length : Int)), ((39 : Nat), AV.int IntKind.i64 (0 : Int))] [(Site.head (3 : Nat) (0 : Nat), Blk.box (AV.agg [AV.int IntKind.i64 v.Item, AV.int IntKind.i64 v.S.L, AV.int IntKind.i64 v.S.R, AV.int IntKind.i64 v.S.N, AV.bool v.Dead, AV.tree (List.map encAttr v.Attrs), AV.str v.Tag, AV.str v.Body]) Bool.true), (Site.head (6 : Nat) (0 : Nat), Blk.row (1 : Nat) [AV.int IntKind.i64 v.Item, AV.int IntKind.i64 v.S.L, AV.int IntKind.i64 v.S.R, AV.int IntKind.i64 v.S.N, AV.int IntKind.i64 (1 : Int), AV.int IntKind.i64 (↑(List.map encAttr v.Attrs).length : Int)] Bool.true Bool.true)]) (by kernel_rfl) (by simp [List.take_of_length_le, encVersion]) rfl (again_l ((1 : Int)) (by (clear again_l; (simp; omega)))))))
   (fun _h11 => (have _w13 : List.take ((0 : Nat) + (List.map encB b).length) (List.map encB b) = List.map encB b := List.take_of_length_le (by simp);
   (Sat.pJoinE (L := loopD X.cfg (10 : FuncId) Proofs.Tryz.f10 (0 : Nat) (9 : Nat)) (St.mk [((0 : Nat), AV.tree (List.take ((0 : Nat) + (List.map encB b).length) (List.map encB b))), ((3 : Nat), AV.ref (Site.head (3 : Nat) (0 : Nat)) (0 : Nat) (0 : Nat)), ((6 : Nat), AV.sref (Site.head (6 : Nat) (0 : Nat)) (0 : Nat) (6 : Nat)), ((37 : Nat), AV.tree (List.map encAttr v.Attrs)), ((38 : Nat), AV.int IntKind.i64 (↑(List.map encAttr v.Attrs).length : Int)), ((39 : Nat), AV.int IntKind.i64 (0 : Int))] [(Site.head (3 : Nat) (0 : Nat), Blk.box (AV.agg [AV.int IntKind.i64 v.Item, AV.int IntKind.i64 v.S.L, AV.int IntKind.i64 v.S.R, AV.int IntKind.i64 v.S.N, AV.bool v.Dead, AV.tree (List.map encAttr v.Attrs), AV.str v.Tag, AV.str v.Body]) Bool.true), (Site.head (6 : Nat) (0 : Nat), Blk.row (1 : Nat) [AV.int IntKind.i64 v.Item, AV.int IntKind.i64 v.S.L, AV.int IntKind.i64 v.S.R, AV.int IntKind.i64 v.S.N, AV.int IntKind.i64 (0 : Int), AV.int IntKind.i64 (↑(List.map encAttr v.Attrs).length : Int)] Bool.true Bool.true)]) (by kernel_rfl) (by simp [List.take_of_length_le, encVersion]) rfl (again_l ((0 : Int)) (by (clear again_l; (simp; omega))))))))))))
   (fun _h10 => False.elim (by omega))))
theorem put_any (b : List UInt8) (hb0 : b.length ≤ 1000) (v : Version) (ha : v.Attrs.length ≤ 100000) (ht : v.Tag.length ≤ 100000) (hb : v.Body.length ≤ 100000) : X.call 10 [.tree (b.map encB), encVersion v] [] ⟨.tree ((putVers b v).map encB), [], []⟩ := by
  cases h : v.may with
  | true => exact put_pre b hb0 v h
  | false =>
    have e : putVers b v = b := by unfold putVers; rw [h]; rfl
    rw [e]
    refine spec_of ok Go.Proofs.Tryz.func10 ok10 ?_
    refine (Sat.pEszM (encB) (b) (List.map encB b) (1) (by kernel_rfl) rfl (fun _ => rfl)
     (Sat.pIfE (((0 : Nat) + (List.map encB b).length) * (1 : Nat) ≤ (140737488355328 : Nat)) (((0 : Nat) + b.length) * (1 : Nat) ≤ (140737488355328 : Nat)) (by kernel_rfl) (by simp only [List.length_map])
     (fun _h9 => (Sat.pNodeT true (by kernel_rfl) rfl
     (Sat.pCallE 22 ([AV.agg [AV.int IntKind.i64 v.Item, AV.int IntKind.i64 v.S.L, AV.int IntKind.i64 v.S.R, AV.int IntKind.i64 v.S.N, AV.bool v.Dead, AV.tree (List.map encAttr v.Attrs), AV.str v.Tag, AV.str v.Body]]) ([]) (by kernel_rfl) rfl rfl (@Go.Ab.Tryz.c22a (v) (by assumption) (by assumption) (by assumption))
     (Sat.pNodeT (!v.may) (by kernel_rfl) (by rw [h]; rfl) (have _w10 : List.take ((0 : Nat) + (List.map encB b).length) (List.map encB b) = List.map encB b := List.take_of_length_le (by simp);
     (Sat.pRet (Res.mk (AV.tree (List.take ((0 : Nat) + (List.map encB b).length) (List.map encB b))) [] []) (by kernel_rfl) (by (simp [List.take_of_length_le]; done))))))))
     (fun _h9 => False.elim (by omega))))
end Go.Ab.Tryz
