/- ViewMore: whatever it is handed, it answers true. -/
import Derived.Test.YtmkkhaonakdgpaaGreatDoorViewc
import Derived.Test.YtmkkhaonakdgpaaGreatDoorHand
namespace Go.Ab.Tryz
open Go
set_option maxRecDepth 100000
set_option maxHeartbeats 4000000
def Rows (l : List View) : Prop := ∀ (i : Nat) (x : View), l[i]? = some x → x.R = (i : Int) + 1
def Small (l : List View) : Prop := ∀ v ∈ l, v.Seen.length ≤ 1000 ∧ v.Epochs.length ≤ 1000
theorem same_R {a b : List View} (ha : Rows a) (hb : Rows b) : ∀ (i : Nat) (x y : View), a[i]? = some x → b[i]? = some y → x.R = y.R := fun i x y hx hy => (ha i x hx).trans (hb i y hy).symm
theorem pick_at {a b : List View} {i : Nat} {x : View} (h : (pickVs a b)[i]? = some x) : ∃ u v, a[i]? = some u ∧ b[i]? = some v ∧ x = pickV u v := by
  unfold pickVs at h
  rw [List.getElem?_zipWith] at h
  cases ha : a[i]? with
  | none => rw [ha] at h; simp at h
  | some u =>
    cases hb : b[i]? with
    | none => rw [ha, hb] at h; simp at h
    | some v => rw [ha, hb] at h; exact ⟨u, v, rfl, rfl, (Option.some.inj h).symm⟩
theorem pick_R {a b : List View} (ha : Rows a) (hb : Rows b) : Rows (pickVs a b) := fun i x hx => by
  obtain ⟨u, v, hu, hv, rfl⟩ := pick_at hx
  unfold pickV; split
  · exact hb i v hv
  · exact ha i u hu
theorem pick_S {a b : List View} (ha : Small a) (hb : Small b) : Small (pickVs a b) := fun x hx => by
  obtain ⟨i, hi⟩ := List.getElem?_of_mem hx
  obtain ⟨u, v, hu, hv, rfl⟩ := pick_at hi
  unfold pickV; split
  · exact hb v (List.mem_of_getElem? hv)
  · exact ha u (List.mem_of_getElem? hu)
theorem pick_self : ∀ a : List View, pickVs a a = a
  | [] => rfl
  | x :: a => by
    have := pick_self a
    unfold pickVs at *
    simp [this, pickV]
theorem pick_more : ∀ a b : List View, a.length = b.length → pickVs (pickVs a b) a = pickVs a b
  | [], [], _ => rfl
  | [], _ :: _, h => by cases h
  | _ :: _, [], h => by cases h
  | x :: a, y :: b, h => by
    have := pick_more a b (by simpa using h)
    unfold pickVs at *
    simp only [List.zipWith_cons_cons, this, List.cons.injEq, and_true]
    unfold pickV
    split <;> split <;> first | rfl | omega
theorem c11 : X.call 11 [] [] ⟨.bool true, [], []⟩ := evT_ok envOk (by kernel_rfl)
theorem c3 (x0 : List UInt8) (x1 : UInt8) : X.call 3 [.tree (x0.map encB), encB x1] [] ⟨.bool true, [], []⟩ := by
  by_cases hx : x0.length ≤ 100
  · obtain ⟨⟨a, p1⟩, ca, la, pa, ra, sa⟩ := views_ex ⟨x0, 0⟩ (1 + x1.toNat % 5) (by simp only; omega) (by omega)
    simp only at ca la pa ra sa
    obtain ⟨⟨b, p2⟩, cb, lb, pb, rb, sb⟩ := views_ex p1 (1 + x1.toNat % 5) (by rw [pa]; omega) (by omega)
    simp only at cb lb pb rb sb
    have m1 := merge_ex a b (by omega) (same_R ra rb) (by omega) sa sb
    have m2 := merge_ex a a rfl (same_R ra ra) (by omega) sa sa
    have lm : (pickVs a b).length = a.length := pickVs_len (by omega)
    have m3 := merge_ex (pickVs a b) a lm (same_R (pick_R ra rb) ra) (by omega) (pick_S sa sb) sa
    have m4 := merge_nil a (by omega) sa
    rw [pick_self] at m2
    rw [pick_more a b (by omega)] at m3
    have sm := pick_S sa sb
    have big : ∀ l : List View, Small l → ∀ v ∈ l, v.Seen.length ≤ 100000 ∧ v.Epochs.length ≤ 100000 := fun l h v hv => by have := h v hv; omega
    have ba := big a sa
    have bb := big b sb
    have bm := big _ sm
    have hpick : ∀ (k : Nat) (u v w : View), a[k]? = some u → b[k]? = some v → (pickVs a b)[k]? = some w → w = if u.Rev < v.Rev then v else u := fun k u v w hu hv hw => by
      obtain ⟨u', v', hu', hv', e⟩ := pick_at hw
      rw [hu] at hu'; rw [hv] at hv'
      cases hu'; cases hv'; exact e
    generalize hm : pickVs a b = m at *
    clear sa sb sm big hm
    refine spec_of ok Go.Proofs.Tryz.func3 ok3 ?_
    refine (Sat.pCallE 11 ([]) ([]) (by kernel_rfl) rfl rfl (@Go.Ab.Tryz.c11) (Sat.pNodeF false (by kernel_rfl) rfl
     (Sat.pIfE ((100 : Int) < (↑(List.map encB x0).length : Int)) ((100 : Nat) < x0.length) (by kernel_rfl) (by simp only [List.length_map, ciLt]) (fun _h37 => False.elim (by omega)) (fun _h37 =>
     (Sat.pNodeT true (by kernel_rfl) rfl (Sat.pCallE 12 ([AV.tree (List.map encB x0)]) ([]) (by kernel_rfl) rfl rfl (@Go.Ab.Tryz.c12 (x0)) (have _u38 : x1.toNat < (256 : Nat) := UInt8.toNat_lt _;
     (have _w39 : (↑x1.toNat : Int).tmod (5 : Int) = (↑x1.toNat : Int) % (5 : Int) := Int.tmod_eq_emod_of_nonneg (by omega);
     (have _w40 : IntKind.i64.wrap ((↑x1.toNat : Int) % (5 : Int)) = (↑x1.toNat : Int) % (5 : Int) := wI64 (by omega) (by omega);
     (have _w41 : IntKind.i64.wrap ((1 : Int) + (↑x1.toNat : Int) % (5 : Int)) = (1 : Int) + (↑x1.toNat : Int) % (5 : Int) := wI64 (by omega) (by omega);
     (Sat.pCallE 13 ([AV.ref (Site.inc (0 : Nat)) (0 : Nat) (0 : Nat), AV.int IntKind.i64 (IntKind.i64.wrap ((1 : Int) + IntKind.i64.wrap ((↑x1.toNat : Int).tmod (5 : Int))))]) ([Blk.box (AV.agg [AV.tree (List.map encB x0), AV.int IntKind.i64 (0 : Int)]) Bool.true]) (by kernel_rfl) (by simp [_w41, _w40, _w39]) rfl (@ca)
     (Sat.pCallE 13 ([AV.ref (Site.inc (0 : Nat)) (0 : Nat) (0 : Nat), AV.int IntKind.i64 (IntKind.i64.wrap ((1 : Int) + IntKind.i64.wrap ((↑x1.toNat : Int).tmod (5 : Int))))]) ([Blk.box (AV.agg [AV.tree (List.map encB p1.l), AV.int IntKind.i64 (↑p1.n : Int)]) Bool.true]) (by kernel_rfl) (by simp [_w41, _w40, _w39]) rfl (@cb)
     (Sat.pCallE 14 ([AV.tree (List.map encView a), AV.tree (List.map encView b)]) ([]) (by kernel_rfl) rfl rfl (@m1)
     (Sat.pIfEN ((↑(List.map encView m).length : Int) = IntKind.i64.wrap ((1 : Int) + IntKind.i64.wrap ((↑x1.toNat : Int).tmod (5 : Int)))) ((↑m.length : Int) = (1 : Int) + (↑x1.toNat : Int) % (5 : Int)) (by kernel_rfl) (by simp only [List.length_map, _w41, _w40, _w39])
     (fun _h42 => False.elim (by omega)) (fun _h42 =>
     (Sat.pIfENF ((↑(List.map encView m).length : Int) = IntKind.i64.wrap ((1 : Int) + IntKind.i64.wrap ((↑x1.toNat : Int).tmod (5 : Int)))) ((↑m.length : Int) = (1 : Int) + (↑x1.toNat : Int) % (5 : Int)) (by kernel_rfl) (by simp only [List.length_map, _w41, _w40, _w39]) _h42
     (Sat.pIfENF ((↑(List.map encView m).length : Int) = IntKind.i64.wrap ((1 : Int) + IntKind.i64.wrap ((↑x1.toNat : Int).tmod (5 : Int)))) ((↑m.length : Int) = (1 : Int) + (↑x1.toNat : Int) % (5 : Int)) (by kernel_rfl) (by simp only [List.length_map, _w41, _w40, _w39]) _h42
     (Sat.pCallE 14 ([AV.tree (List.map encView a), AV.tree (List.map encView a)]) ([]) (by kernel_rfl) rfl rfl (@m2)
     (Sat.pIfENF ((↑(List.map encView m).length : Int) = IntKind.i64.wrap ((1 : Int) + IntKind.i64.wrap ((↑x1.toNat : Int).tmod (5 : Int)))) ((↑m.length : Int) = (1 : Int) + (↑x1.toNat : Int) % (5 : Int)) (by kernel_rfl) (by simp only [List.length_map, _w41, _w40, _w39]) _h42
     (Sat.pIfENF ((↑(List.map encView m).length : Int) = IntKind.i64.wrap ((1 : Int) + IntKind.i64.wrap ((↑x1.toNat : Int).tmod (5 : Int)))) ((↑m.length : Int) = (1 : Int) + (↑x1.toNat : Int) % (5 : Int)) (by kernel_rfl) (by simp only [List.length_map, _w41, _w40, _w39]) _h42
     (Sat.pCallE 15 ([AV.tree (List.map encView a), AV.tree (List.map encView a)]) ([]) (by kernel_rfl) rfl rfl (@Go.Ab.Tryz.c15 (a) (a) (by omega) (by assumption))
     (Sat.pIfENF ((↑(List.map encView m).length : Int) = IntKind.i64.wrap ((1 : Int) + IntKind.i64.wrap ((↑x1.toNat : Int).tmod (5 : Int)))) ((↑m.length : Int) = (1 : Int) + (↑x1.toNat : Int) % (5 : Int)) (by kernel_rfl) (by simp only [List.length_map, _w41, _w40, _w39]) _h42
     (Sat.pIfENF ((↑(List.map encView m).length : Int) = IntKind.i64.wrap ((1 : Int) + IntKind.i64.wrap ((↑x1.toNat : Int).tmod (5 : Int)))) ((↑m.length : Int) = (1 : Int) + (↑x1.toNat : Int) % (5 : Int)) (by kernel_rfl) (by simp only [List.length_map, _w41, _w40, _w39]) _h42
     (Sat.pIfEN (a = a) (True) (by kernel_rfl) (by simp only []) (fun _h43 => (_h43 trivial).elim) (fun _h43 => (Sat.pIfENF (a = a) (True) (by kernel_rfl) (by simp only []) _h43
     (Sat.pIfENF (a = a) (True) (by kernel_rfl) (by simp only []) _h43 (Sat.pCallE 14 ([AV.tree (List.map encView m), AV.tree (List.map encView a)]) ([]) (by kernel_rfl) rfl rfl (@m3)
     (Sat.pIfENF (a = a) (True) (by kernel_rfl) (by simp only []) _h43 (Sat.pIfENF (a = a) (True) (by kernel_rfl) (by simp only []) _h43
     (Sat.pCallE 15 ([AV.tree (List.map encView m), AV.tree (List.map encView m)]) ([]) (by kernel_rfl) rfl rfl (@Go.Ab.Tryz.c15 (m) (m) (by omega) (by assumption))
     (Sat.pIfENF (a = a) (True) (by kernel_rfl) (by simp only []) _h43 (Sat.pIfENF (a = a) (True) (by kernel_rfl) (by simp only []) _h43 (Sat.pIfENF (m = m) (True) (by kernel_rfl) (by simp only []) _h43
     (Sat.pIfENF (m = m) (True) (by kernel_rfl) (by simp only []) _h43 (Sat.pCallE 14 ([AV.tree (List.map encView a), AV.tree []]) ([]) (by kernel_rfl) rfl rfl (@m4)
     (Sat.pIfENF (m = m) (True) (by kernel_rfl) (by simp only []) _h43 (Sat.pIfENF (m = m) (True) (by kernel_rfl) (by simp only []) _h43
     (Sat.pCallE 15 ([AV.tree (List.map encView a), AV.tree (List.map encView a)]) ([]) (by kernel_rfl) rfl rfl (@Go.Ab.Tryz.c15 (a) (a) (by omega) (by assumption))
     (Sat.pIfENF (m = m) (True) (by kernel_rfl) (by simp only []) _h43 (Sat.pIfENF (m = m) (True) (by kernel_rfl) (by simp only []) _h43
     (Sat.pIfENF (a = a) (True) (by kernel_rfl) (by simp only []) _h43 ?_))))))))))))))))))))))))))))))))))))))))))
    refine Sat.pLoop 12 (St.mk [((5 : Nat), AV.int IntKind.i64 (IntKind.i64.wrap ((1 : Int) + IntKind.i64.wrap ((↑x1.toNat : Int).tmod (5 : Int))))), ((7 : Nat), AV.tree (List.map encView a)), ((8 : Nat), AV.tree (List.map encView b)), ((9 : Nat), AV.tree (List.map encView m)), ((10 : Nat), AV.int IntKind.i64 (0 : Int))] []) (by kernel_rfl) (fun (k : Nat) => ⟨[(5, .int .i64 ((1 + x1.toNat % 5 : Nat) : Int)), (7, .tree (a.map encView)), (8, .tree (b.map encView)), (9, .tree (m.map encView)), (10, .int .i64 k)], []⟩) (fun k => k ≤ 1 + x1.toNat % 5) (fun k => 1 + x1.toNat % 5 - k) 0 (by (simp [*]; done)) ?_ ?_
    · omega
    · intro k hk again
      refine (have _u47 : x1.toNat < (256 : Nat) := UInt8.toNat_lt _;
       (Sat.pIfE ((↑k : Int) < (↑((1 : Nat) + x1.toNat % (5 : Nat)) : Int)) (k < (1 : Nat) + x1.toNat % (5 : Nat)) (by kernel_rfl) (by simp only [Int.ofNat_lt]) (fun _h48 =>
       (Sat.pNodeT true (by kernel_rfl) rfl (Sat.pElemM (encView) (a) (List.map encView a) (k) (by kernel_rfl) rfl (by omega) (fun _x49 _hx50 => (have _hc51 := (ba _x49 (List.mem_of_getElem? _hx50)).1;
       (have _hc52 := (ba _x49 (List.mem_of_getElem? _hx50)).2; (Sat.pNodeT true (by kernel_rfl) rfl (Sat.pElemM (encView) (b) (List.map encView b) (k) (by kernel_rfl) rfl (by omega) (fun _x53 _hx54 =>
       (have _hc55 := (bb _x53 (List.mem_of_getElem? _hx54)).1; (have _hc56 := (bb _x53 (List.mem_of_getElem? _hx54)).2; (Sat.pNodeT true (by kernel_rfl) rfl
       (Sat.pElemH (encView) (a) (List.map encView a) (k) (k) (_x49) (by kernel_rfl) rfl rfl _hx50 (Sat.pIf (_x49.Rev < _x53.Rev) (by kernel_rfl) (fun _h57 => (Sat.pNodeT true (by kernel_rfl) rfl
       (Sat.pElemH (encView) (b) (List.map encView b) (k) (k) (_x53) (by kernel_rfl) rfl rfl _hx54 (Sat.pNodeT true (by kernel_rfl) rfl
       (Sat.pElemM (encView) (m) (List.map encView m) (k) (by kernel_rfl) rfl (by omega) (fun _x58 _hx59 => (have _hc60 := (bm _x58 (List.mem_of_getElem? _hx59)).1;
       (have _hc61 := (bm _x58 (List.mem_of_getElem? _hx59)).2;
       (Sat.pCallE 16 ([AV.agg [AV.int IntKind.i64 _x58.R, AV.int IntKind.i64 _x58.Rev, AV.str _x58.Filter, AV.tree (List.map encHead _x58.Seen), AV.tree (List.map encI _x58.Epochs)], AV.agg [AV.int IntKind.i64 _x53.R, AV.int IntKind.i64 _x53.Rev, AV.str _x53.Filter, AV.tree (List.map encHead _x53.Seen), AV.tree (List.map encI _x53.Epochs)]]) ([]) (by kernel_rfl) rfl rfl (@Go.Ab.Tryz.c16 (_x58) (_x53) (by assumption) (by assumption))
       (Sat.pIfN (_x58 = _x53) (by kernel_rfl) (fun _h62 => False.elim (by (clear ca cb m2 m4 m1 m3 again; (have := hpick _ _ _ _ (by assumption) (by assumption) (by assumption); simp_all; done))))
       (fun _h62 => (have _w63 : IntKind.i64.wrap ((↑k : Int) + (1 : Int)) = (↑k : Int) + (1 : Int) := wI64 (by omega) (by omega);
       (Sat.pAgainE (St.mk [((5 : Nat), AV.int IntKind.i64 (↑((1 : Nat) + x1.toNat % (5 : Nat)) : Int)), ((7 : Nat), AV.tree (List.map encView a)), ((8 : Nat), AV.tree (List.map encView b)), ((9 : Nat), AV.tree (List.map encView m)), ((10 : Nat), AV.int IntKind.i64 (IntKind.i64.wrap ((↑k : Int) + (1 : Int))))] []) (by kernel_rfl) (by simp [_w63]) (again (k + (1 : Nat)) (by omega) (by omega)))))))))))))))
       (fun _h57 => (Sat.pNodeT true (by kernel_rfl) rfl (Sat.pElemM (encView) (m) (List.map encView m) (k) (by kernel_rfl) rfl (by omega) (fun _x64 _hx65 =>
       (have _hc66 := (bm _x64 (List.mem_of_getElem? _hx65)).1; (have _hc67 := (bm _x64 (List.mem_of_getElem? _hx65)).2;
       (Sat.pCallE 16 ([AV.agg [AV.int IntKind.i64 _x64.R, AV.int IntKind.i64 _x64.Rev, AV.str _x64.Filter, AV.tree (List.map encHead _x64.Seen), AV.tree (List.map encI _x64.Epochs)], AV.agg [AV.int IntKind.i64 _x49.R, AV.int IntKind.i64 _x49.Rev, AV.str _x49.Filter, AV.tree (List.map encHead _x49.Seen), AV.tree (List.map encI _x49.Epochs)]]) ([]) (by kernel_rfl) rfl rfl (@Go.Ab.Tryz.c16 (_x64) (_x49) (by assumption) (by assumption))
       (Sat.pIfN (_x64 = _x49) (by kernel_rfl)
       (fun _h68 => False.elim (by (clear ca cb m2 m4 m1 m3 again; (have e := hpick _ _ _ _ (by assumption) (by assumption) (by assumption); rw [if_neg (by omega)] at e; contradiction)))) (fun _h68 =>
       (have _w69 : IntKind.i64.wrap ((↑k : Int) + (1 : Int)) = (↑k : Int) + (1 : Int) := wI64 (by omega) (by omega);
       (Sat.pAgainE (St.mk [((5 : Nat), AV.int IntKind.i64 (↑((1 : Nat) + x1.toNat % (5 : Nat)) : Int)), ((7 : Nat), AV.tree (List.map encView a)), ((8 : Nat), AV.tree (List.map encView b)), ((9 : Nat), AV.tree (List.map encView m)), ((10 : Nat), AV.int IntKind.i64 (IntKind.i64.wrap ((↑k : Int) + (1 : Int))))] []) (by kernel_rfl) (by simp [_w69]) (again (k + (1 : Nat)) (by omega) (by omega)))))))))))))))))))))))))))
       (fun _h48 => (Sat.pRet (Res.mk (AV.bool Bool.true) [] []) (by kernel_rfl) rfl))))
  · refine spec_of ok Go.Proofs.Tryz.func3 ok3 ?_
    refine (Sat.pCallE 11 ([]) ([]) (by kernel_rfl) rfl rfl (@Go.Ab.Tryz.c11) (Sat.pNodeF false (by kernel_rfl) rfl
     (Sat.pIfE ((100 : Int) < (↑(List.map encB x0).length : Int)) ((100 : Nat) < x0.length) (by kernel_rfl) (by simp only [List.length_map, ciLt]) (fun _h4 =>
     (Sat.pRet (Res.mk (AV.bool Bool.true) [] []) (by kernel_rfl) rfl)) (fun _h4 => False.elim (by omega)))))
theorem law_ViewMore (x0 : List UInt8) (x1 : UInt8) (_h0 : (∀ x ∈ x0, True) ∧ x0.length ≤ maxLen) (_h1 : True) : X.call 3 [.tree (x0.map encB), encB x1] [] ⟨.bool true, [], []⟩ := c3 x0 x1
end Go.Ab.Tryz
