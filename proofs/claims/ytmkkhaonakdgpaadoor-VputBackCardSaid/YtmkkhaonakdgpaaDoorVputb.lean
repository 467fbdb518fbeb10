/- Package vput: a version as bytes, as plain Lean; the law. -/
import Derived.Test.YtmkkhaonakdgpaaDoorVputa
namespace Go.Ab.Tryd
open Go
set_option maxRecDepth 100000
set_option maxHeartbeats 4000000
/-- The numbers of a version, with its first so many attributes. -/
def numsOf (v : Version) (d : Int) (k : Nat) : List Int := [v.Item, v.S.L, v.S.R, v.S.N, d, v.Attrs.length] ++ (v.Attrs.take k).flatMap fun a => [a.Key, a.Val]
theorem numsOf_succ {v : Version} {d : Int} {k : Nat} {a : Attr} (h : v.Attrs[k]? = some a) : numsOf v d (k + 1) = numsOf v d k ++ [a.Key, a.Val] := by
  unfold numsOf; rw [take_succ h, List.flatMap_append]; simp
theorem numsOf_len (v : Version) (d : Int) (k : Nat) : (numsOf v d k).length ≤ 6 + 2 * k := by
  have : ∀ l : List Attr, (l.flatMap fun a => [a.Key, a.Val]).length = 2 * l.length := by
    intro l; induction l with
    | nil => rfl
    | cons a l ih => simp only [List.flatMap_cons, List.length_append, ih, List.length_cons, List.length_nil]; omega
  simp only [numsOf, List.length_append, this, List.length_cons, List.length_nil, List.length_take]
  omega
theorem numsOf_in {v : Version} {d : Int} {k : Nat} (f : v.Fit) (h0 : 0 ≤ d) (h1 : d ≤ 1) : ∀ n ∈ numsOf v d k, 0 ≤ n ∧ n ≤ 5000 := by
  intro n hn
  have a1 := f.i0; have a2 := f.i1; have a3 := f.l0; have a4 := f.l1; have a5 := f.r0; have a6 := f.r1; have a7 := f.n0; have a8 := f.n1; have a9 := f.al
  rcases List.mem_append.1 hn with hn | hn
  · simp only [List.mem_cons, List.not_mem_nil, or_false] at hn
    rcases hn with rfl | rfl | rfl | rfl | rfl | rfl <;> omega
  · obtain ⟨a, ha, hn⟩ := List.mem_flatMap.1 hn
    have := f.av a (List.mem_of_mem_take ha)
    simp only [List.mem_cons, List.not_mem_nil, or_false] at hn
    rcases hn with rfl | rfl <;> omega
def numsB (l : List Int) : List UInt8 := l.flatMap fun n => numB n.toNat
theorem numsB_succ {l : List Int} {k : Nat} {n : Int} (h : l[k]? = some n) : numsB (l.take (k + 1)) = numsB (l.take k) ++ numB n.toNat := by
  unfold numsB; rw [take_succ h, List.flatMap_append]; simp
theorem numsB_all (v : Version) (d : Int) (hd : d = if v.Dead then 1 else 0) : numsB (numsOf v d v.Attrs.length) = versB v ++ attrsB v.Attrs := by
  have h1 : d.toNat = v.Dead.toNat := by rw [hd]; cases v.Dead <;> rfl
  have h2 : ∀ l : List Attr, numsB (l.flatMap fun a => [a.Key, a.Val]) = attrsB l := by
    intro l; induction l with
    | nil => rfl
    | cons a l ih => simp only [numsB, attrsB, List.flatMap_cons, List.flatMap_append, List.flatMap_nil] at *; rw [ih]; simp
  have h3 := h2 v.Attrs
  unfold numsB at h3
  simp only [numsB, numsOf, List.flatMap_append, List.take_length, h3, versB]
  simp [h1]
theorem c8 (v : Version) (h : v.may = true) (ht : v.Tag ∈ tags) : X.call 8 [.tree [], encVersion v] [] ⟨.tree ((putVers [] v).map encB), [], []⟩ := by
  have f := Version.may_fit h
  have hal := f.al
  refine spec_of ok Go.Proofs.Tryd.func8 ok8 ?_
  have again_l : ∀ d : Int, (d = if v.Dead then 1 else 0) → Sat X 8 (loopD X.cfg 8 Go.Proofs.Tryd.f8 0 9 ⟨[(0, .tree []), (3, .ref (.head 3 0) 0 0), (6, .sref (.head 6 0) 0 6), (37, .tree (v.Attrs.map encAttr)), (38, .int .i64 v.Attrs.length), (39, .int .i64 0)], [(.head 3 0, .box (encVersion v) true), (.head 6 0, .row 1 [.int .i64 v.Item, .int .i64 v.S.L, .int .i64 v.S.R, .int .i64 v.S.N, .int .i64 d, .int .i64 v.Attrs.length] true true)]⟩) (· = ⟨.tree ((putVers [] v).map encB), [], []⟩) := by
    intro d hd
    refine Sat.pLoop 9 (St.mk [((0 : Nat), AV.tree []), ((3 : Nat), AV.ref (Site.head (3 : Nat) (0 : Nat)) (0 : Nat) (0 : Nat)), ((6 : Nat), AV.sref (Site.head (6 : Nat) (0 : Nat)) (0 : Nat) (6 : Nat)), ((37 : Nat), AV.tree (List.map encAttr v.Attrs)), ((38 : Nat), AV.int IntKind.i64 (↑v.Attrs.length : Int)), ((39 : Nat), AV.int IntKind.i64 (0 : Int))] [(Site.head (3 : Nat) (0 : Nat), Blk.box (encVersion v) Bool.true), (Site.head (6 : Nat) (0 : Nat), Blk.row (1 : Nat) [AV.int IntKind.i64 v.Item, AV.int IntKind.i64 v.S.L, AV.int IntKind.i64 v.S.R, AV.int IntKind.i64 v.S.N, AV.int IntKind.i64 d, AV.int IntKind.i64 (↑v.Attrs.length : Int)] Bool.true Bool.true)]) (by kernel_rfl) (fun (k : Nat) => ⟨[(0, .tree []), (3, .ref (.head 3 0) 0 0), (6, .sref (.head 6 0) 0 (numsOf v d k).length), (37, .tree (v.Attrs.map encAttr)), (38, .int .i64 v.Attrs.length), (39, .int .i64 k)], [(.head 3 0, .box (encVersion v) true), (.head 6 0, .row 1 ((numsOf v d k).map encI) true true)]⟩) (fun k => k ≤ v.Attrs.length) (fun k => v.Attrs.length - k) 0 rfl ?_ ?_
    · omega
    · intro k hk again
      have hn := numsOf_len v d k
      refine (Sat.pIfE ((↑k : Int) < (↑v.Attrs.length : Int)) (k < v.Attrs.length) (by kernel_rfl) (by simp only [Int.ofNat_lt]) (fun _h12 => (Sat.pNodeT true (by kernel_rfl) rfl
       (Sat.pElemM (encAttr) (v.Attrs) (List.map encAttr v.Attrs) (k) (by kernel_rfl) rfl (by assumption) (fun _x13 _hx14 =>
       (Sat.pIf (((numsOf v d k).length + (2 : Nat)) * (8 : Nat) ≤ (140737488355328 : Nat)) (by kernel_rfl) (fun _h15 =>
       (Sat.pIfE ((numsOf v d k).length = (List.map encI (numsOf v d k)).length) (True) (by kernel_rfl) (by simp only [List.length_map]) (fun _h16 =>
       (have _w17 : IntKind.i64.wrap ((↑k : Int) + (1 : Int)) = (↑k : Int) + (1 : Int) := wI64 (by omega) (by omega);
       (Sat.pAgainE (St.mk [((0 : Nat), AV.tree []), ((3 : Nat), AV.ref (Site.head (3 : Nat) (0 : Nat)) (0 : Nat) (0 : Nat)), ((6 : Nat), AV.sref (Site.head (6 : Nat) (0 : Nat)) (0 : Nat) ((numsOf v d k).length + (2 : Nat))), ((37 : Nat), AV.tree (List.map encAttr v.Attrs)), ((38 : Nat), AV.int IntKind.i64 (↑v.Attrs.length : Int)), ((39 : Nat), AV.int IntKind.i64 (IntKind.i64.wrap ((↑k : Int) + (1 : Int))))] [(Site.head (3 : Nat) (0 : Nat), Blk.box (AV.agg [AV.int IntKind.i64 v.Item, AV.int IntKind.i64 v.S.L, AV.int IntKind.i64 v.S.R, AV.int IntKind.i64 v.S.N, AV.bool v.Dead, AV.tree (List.map encAttr v.Attrs), AV.str v.Tag, AV.str v.Body]) Bool.true), (Site.head (6 : Nat) (0 : Nat), Blk.row (1 : Nat) (List.map encI (numsOf v d k) ++ [AV.int IntKind.i64 _x13.Key, AV.int IntKind.i64 _x13.Val]) Bool.true Bool.true)]) (by kernel_rfl) (by (clear again; (rw [numsOf_succ (by assumption)]; simp [encI, encVersion, *]; done))) (again (k + (1 : Nat)) (by omega) (by omega)))))
       (fun _h16 => (_h16 trivial).elim))) (fun _h15 => False.elim (by omega))))))) (fun _h12 => ?_))
      have hkk : k = v.Attrs.length := by omega
      subst hkk
      have hin := numsOf_in (d := d) (k := v.Attrs.length) f (by rw [hd]; split <;> omega) (by rw [hd]; split <;> omega)
      have hall := numsB_all v d hd
      generalize numsOf v d v.Attrs.length = nums at *
      refine Sat.pLoop 14 (St.mk [((0 : Nat), AV.tree []), ((3 : Nat), AV.ref (Site.head (3 : Nat) (0 : Nat)) (0 : Nat) (0 : Nat)), ((51 : Nat), AV.sref (Site.head (51 : Nat) (0 : Nat)) (0 : Nat) nums.length), ((52 : Nat), AV.int IntKind.i64 (↑nums.length : Int)), ((53 : Nat), AV.int IntKind.i64 (0 : Int))] [(Site.head (3 : Nat) (0 : Nat), Blk.box (AV.agg [AV.int IntKind.i64 v.Item, AV.int IntKind.i64 v.S.L, AV.int IntKind.i64 v.S.R, AV.int IntKind.i64 v.S.N, AV.bool v.Dead, AV.tree (List.map encAttr v.Attrs), AV.str v.Tag, AV.str v.Body]) Bool.true), (Site.head (51 : Nat) (0 : Nat), Blk.row (1 : Nat) (List.map encI nums) Bool.true Bool.true)]) (by kernel_rfl) (fun (p : Nat × List UInt8) => ⟨[(0, .tree (p.2.map encB)), (3, .ref (.head 3 0) 0 0), (51, .sref (.head 51 0) 0 nums.length), (52, .int .i64 nums.length), (53, .int .i64 p.1)], [(.head 3 0, .box (encVersion v) true), (.head 51 0, .row 1 (nums.map encI) true true)]⟩) (fun p => p.1 ≤ nums.length ∧ p.2.length ≤ 5 * p.1 ∧ p.2 = numsB (nums.take p.1)) (fun p => nums.length - p.1) (0, []) rfl ?_ ?_
      · exact ⟨by omega, by simp, rfl⟩
      · rintro ⟨j, acc⟩ hJ again2
        obtain ⟨j1, j2, j3⟩ := hJ
        simp only at j1 j2 j3
        have htl := f.tl
        have hbl := f.bl
        refine (Sat.pIfE ((↑j : Int) < (↑nums.length : Int)) (j < nums.length) (by kernel_rfl) (by simp only [Int.ofNat_lt]) (fun _h25 =>
         (Sat.pIfE ((0 : Int) ≤ (↑j : Int) ∧ (↑j : Int) < (↑nums.length : Int)) ((0 : Nat) ≤ j ∧ j < nums.length) (by kernel_rfl) (by simp only [Int.ofNat_lt, ciLe]) (fun _h26 =>
         (Sat.pElemM (encI) (nums) (List.map encI nums) (j) (by kernel_rfl) rfl (by assumption) (fun _x27 _hx28 => (have _hc29 := (hin _x27 (List.mem_of_getElem? _hx28)).1;
         (have _hc30 := (hin _x27 (List.mem_of_getElem? _hx28)).2; (have _hc31 := ((@Go.Ab.Tryd.c15 (acc) (_x27) (by omega) (by assumption) (by omega))).2;
         (have _hn32 : acc.length + (numB _x27.toNat).length ≤ acc.length + (5 : Nat) := Iff.mp (by simp only [List.length_append]) _hc31;
         (Sat.pCallE 15 ([AV.tree (List.map encB acc), AV.int IntKind.i64 _x27]) ([]) (by kernel_rfl) rfl rfl ((@Go.Ab.Tryd.c15 (acc) (_x27) (by omega) (by assumption) (by omega))).1
         (have _w33 : List.take (acc ++ numB _x27.toNat).length (List.map encB (acc ++ numB _x27.toNat)) = List.map encB (acc ++ numB _x27.toNat) := List.take_of_length_le (by simp);
         (have _w34 : IntKind.i64.wrap ((↑j : Int) + (1 : Int)) = (↑j : Int) + (1 : Int) := wI64 (by omega) (by omega);
         (Sat.pAgainE (St.mk [((0 : Nat), AV.tree (List.take (acc ++ numB _x27.toNat).length (List.map encB (acc ++ numB _x27.toNat)))), ((3 : Nat), AV.ref (Site.head (3 : Nat) (0 : Nat)) (0 : Nat) (0 : Nat)), ((51 : Nat), AV.sref (Site.head (51 : Nat) (0 : Nat)) (0 : Nat) nums.length), ((52 : Nat), AV.int IntKind.i64 (↑nums.length : Int)), ((53 : Nat), AV.int IntKind.i64 (IntKind.i64.wrap ((↑j : Int) + (1 : Int))))] [(Site.head (3 : Nat) (0 : Nat), Blk.box (AV.agg [AV.int IntKind.i64 v.Item, AV.int IntKind.i64 v.S.L, AV.int IntKind.i64 v.S.R, AV.int IntKind.i64 v.S.N, AV.bool v.Dead, AV.tree (List.map encAttr v.Attrs), AV.str v.Tag, AV.str v.Body]) Bool.true), (Site.head (51 : Nat) (0 : Nat), Blk.row (1 : Nat) (List.map encI nums) Bool.true Bool.true)]) (by kernel_rfl) (by simp [List.take_of_length_le, encVersion, _w34]) (again2 ((j + (1 : Nat), acc ++ numB _x27.toNat)) ⟨(by show j + (1 : Nat) ≤ nums.length; omega), ⟨(by show (acc ++ numB _x27.toNat).length ≤ (5 : Nat) * (j + (1 : Nat)); omega), (by show acc ++ numB _x27.toNat = numsB (List.take (j + (1 : Nat)) nums); (clear again again2; (rw [numsB_succ (by assumption), j3]; done)))⟩⟩ (by show nums.length - (j + (1 : Nat)) < nums.length - j; omega)))))))))))))
         (fun _h26 => False.elim (by omega)))) (fun _h25 => (have _hc35 := ((@Go.Ab.Tryd.c16 (acc) (v.Tag) (by omega) (by omega))).2;
         (have _hn36 : acc.length + (textB v.Tag).length ≤ acc.length + (5 : Nat) + v.Tag.length := Iff.mp (by simp only [List.length_append]) _hc35;
         (Sat.pCallE 16 ([AV.tree (List.map encB acc), AV.str v.Tag]) ([]) (by kernel_rfl) rfl rfl ((@Go.Ab.Tryd.c16 (acc) (v.Tag) (by omega) (by omega))).1
         (have _w37 : List.take (acc ++ textB v.Tag).length (List.map encB (acc ++ textB v.Tag)) = List.map encB (acc ++ textB v.Tag) := List.take_of_length_le (by simp);
         (have _hc38 := ((@Go.Ab.Tryd.c16 (acc ++ textB v.Tag) (v.Body) (by omega) (by omega))).2;
         (have _hn39 : acc.length + (textB v.Tag).length + (textB v.Body).length ≤ acc.length + (textB v.Tag).length + (5 : Nat) + v.Body.length := Iff.mp (by simp only [List.length_append]) _hc38;
         (Sat.pCallE 16 ([AV.tree (List.take (acc ++ textB v.Tag).length (List.map encB (acc ++ textB v.Tag))), AV.str v.Body]) ([]) (by kernel_rfl) (by simp only [_w37]) rfl ((@Go.Ab.Tryd.c16 (acc ++ textB v.Tag) (v.Body) (by omega) (by omega))).1
         (have _w40 : List.take (acc ++ textB v.Tag ++ textB v.Body).length (List.map encB (acc ++ textB v.Tag ++ textB v.Body)) = List.map encB (acc ++ textB v.Tag ++ textB v.Body) := List.take_of_length_le (by simp);
         (Sat.pRet (Res.mk (AV.tree (List.take (acc ++ textB v.Tag ++ textB v.Body).length (List.map encB (acc ++ textB v.Tag ++ textB v.Body)))) [] []) (by kernel_rfl) (by (clear again again2; (rw [List.take_of_length_le (by omega), hall] at j3; simp [putVers, List.take_of_length_le, *]; done))))))))))))))
  refine (Sat.pEsz ([]) (1) (by kernel_rfl) (by simp) (Sat.pNodeT true (by kernel_rfl) rfl (Sat.pNodeT true (by kernel_rfl) rfl
   (Sat.pCallE 14 ([AV.agg [AV.int IntKind.i64 v.Item, AV.int IntKind.i64 v.S.L, AV.int IntKind.i64 v.S.R, AV.int IntKind.i64 v.S.N, AV.bool v.Dead, AV.tree (List.map encAttr v.Attrs), AV.str v.Tag, AV.str v.Body]]) ([]) (by kernel_rfl) rfl rfl (@Go.Ab.Tryd.c14 (v) (by assumption) (by assumption))
   (Sat.pNodeF false (by kernel_rfl) rfl (Sat.pNode (v.Dead) (by kernel_rfl) (fun _h7 =>
   (Sat.pJoinE (L := loopD X.cfg (8 : FuncId) Proofs.Tryd.f8 (0 : Nat) (9 : Nat)) (St.mk [((0 : Nat), AV.tree []), ((3 : Nat), AV.ref (Site.head (3 : Nat) (0 : Nat)) (0 : Nat) (0 : Nat)), ((6 : Nat), AV.sref (Site.head (6 : Nat) (0 : Nat)) (0 : Nat) (6 : Nat)), ((37 : Nat), AV.tree (List.map encAttr v.Attrs)), ((38 : Nat), AV.int IntKind.i64 (↑(List.map encAttr v.Attrs).length : Int)), ((39 : Nat), AV.int IntKind.i64 (0 : Int))] [(Site.head (3 : Nat) (0 : Nat), Blk.box (AV.agg [AV.int IntKind.i64 v.Item, AV.int IntKind.i64 v.S.L, AV.int IntKind.i64 v.S.R, AV.int IntKind.i64 v.S.N, AV.bool v.Dead, AV.tree (List.map encAttr v.Attrs), AV.str v.Tag, AV.str v.Body]) Bool.true), (Site.head (6 : Nat) (0 : Nat), Blk.row (1 : Nat) [AV.int IntKind.i64 v.Item, AV.int IntKind.i64 v.S.L, AV.int IntKind.i64 v.S.R, AV.int IntKind.i64 v.S.N, AV.int IntKind.i64 (1 : Int), AV.int IntKind.i64 (↑(List.map encAttr v.Attrs).length : Int)] Bool.true Bool.true)]) (by kernel_rfl) (by simp [encVersion]) rfl (again_l ((1 : Int)) (by (clear again_l; (simp; omega))))))
   (fun _h7 =>
   (Sat.pJoinE (L := loopD X.cfg (8 : FuncId) Proofs.Tryd.f8 (0 : Nat) (9 : Nat)) (St.mk [((0 : Nat), AV.tree []), ((3 : Nat), AV.ref (Site.head (3 : Nat) (0 : Nat)) (0 : Nat) (0 : Nat)), ((6 : Nat), AV.sref (Site.head (6 : Nat) (0 : Nat)) (0 : Nat) (6 : Nat)), ((37 : Nat), AV.tree (List.map encAttr v.Attrs)), ((38 : Nat), AV.int IntKind.i64 (↑(List.map encAttr v.Attrs).length : Int)), ((39 : Nat), AV.int IntKind.i64 (0 : Int))] [(Site.head (3 : Nat) (0 : Nat), Blk.box (AV.agg [AV.int IntKind.i64 v.Item, AV.int IntKind.i64 v.S.L, AV.int IntKind.i64 v.S.R, AV.int IntKind.i64 v.S.N, AV.bool v.Dead, AV.tree (List.map encAttr v.Attrs), AV.str v.Tag, AV.str v.Body]) Bool.true), (Site.head (6 : Nat) (0 : Nat), Blk.row (1 : Nat) [AV.int IntKind.i64 v.Item, AV.int IntKind.i64 v.S.L, AV.int IntKind.i64 v.S.R, AV.int IntKind.i64 v.S.N, AV.int IntKind.i64 (0 : Int), AV.int IntKind.i64 (↑(List.map encAttr v.Attrs).length : Int)] Bool.true Bool.true)]) (by kernel_rfl) (by simp [encVersion]) rfl (again_l ((0 : Int)) (by (clear again_l; (simp; omega))))))))))))
end Go.Ab.Tryd
