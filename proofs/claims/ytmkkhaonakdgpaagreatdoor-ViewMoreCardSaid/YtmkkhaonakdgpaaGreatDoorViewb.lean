/- Package view: views are merged, as plain Lean. -/
import Derived.Test.YtmkkhaonakdgpaaGreatDoorViewa
namespace Go.Ab.Tryz
open Go
set_option maxRecDepth 100000
set_option maxHeartbeats 4000000
/-- Of each replica the later view. -/
def pickV (a b : View) : View := if a.Rev < b.Rev then b else a
def pickVs (a b : List View) : List View := List.zipWith pickV a b
theorem pickV_r {a b : View} (h : a.R = b.R) : (pickV a b).R = a.R := by unfold pickV; split <;> simp [h]
theorem pickVs_len {a b : List View} (h : a.length = b.length) : (pickVs a b).length = a.length := by simp [pickVs]; omega
theorem merge_ex (a b : List View) (hl : a.length = b.length) (hr : ∀ (i : Nat) (x y : View), a[i]? = some x → b[i]? = some y → x.R = y.R) (h : a.length ≤ 1000) (ha : ∀ v ∈ a, v.Seen.length ≤ 1000 ∧ v.Epochs.length ≤ 1000) (hb : ∀ v ∈ b, v.Seen.length ≤ 1000 ∧ v.Epochs.length ≤ 1000) : X.call 14 [.tree (a.map encView), .tree (b.map encView)] [] ⟨.tree ((pickVs a b).map encView), [], []⟩ := by
  refine spec_of ok Go.Proofs.Tryz.func14 ok14 ?_
  refine ?_
  refine Sat.pLoop 1 (St.mk [((0 : Nat), AV.tree (List.map encView a)), ((1 : Nat), AV.tree (List.map encView b)), ((4 : Nat), AV.sref (Site.head (4 : Nat) (0 : Nat)) (0 : Nat) (0 : Nat))] [(Site.head (4 : Nat) (0 : Nat), Blk.row (5 : Nat) [] Bool.true Bool.true)]) (by kernel_rfl) (fun (p : List View × List View × List View) => ⟨[(0, .tree (p.1.map encView)), (1, .tree (p.2.1.map encView)), (4, .sref (.head 4 0) 0 p.2.2.length)], [(.head 4 0, .row 5 (p.2.2.map encView) true true)]⟩) (fun p => p.1.length = p.2.1.length ∧ (∀ (i : Nat) (x y : View), p.1[i]? = some x → p.2.1[i]? = some y → x.R = y.R) ∧ p.2.2.length + p.1.length ≤ 1000 ∧ (∀ v ∈ p.1, v.Seen.length ≤ 1000 ∧ v.Epochs.length ≤ 1000) ∧ (∀ v ∈ p.2.1, v.Seen.length ≤ 1000 ∧ v.Epochs.length ≤ 1000) ∧ p.2.2 ++ pickVs p.1 p.2.1 = pickVs a b) (fun p => p.1.length) (a, b, []) rfl ?_ ?_
  · exact ⟨hl, hr, by simpa using h, ha, hb, rfl⟩
  · rintro ⟨x, y, o⟩ hI again
    obtain ⟨i1, i2, i3, i4, i5, i6⟩ := hI
    simp only at i1 i2 i3 i4 i5 i6
    rcases x with _ | ⟨u, x⟩
    · rcases y with _ | ⟨v, y⟩
      · have e : o = pickVs a b := by rw [← i6]; simp [pickVs]
        refine (Sat.pNodeF false (by kernel_rfl) rfl (Sat.pNodeF false (by kernel_rfl) rfl (Sat.pNodeF false (by kernel_rfl) rfl (Sat.pNodeF false (by kernel_rfl) rfl (Sat.pNodeF false (by kernel_rfl) rfl
         (have _w29 : List.take o.length (List.map encView o) = List.map encView o := List.take_of_length_le (by simp);
         (Sat.pRet (Res.mk (AV.tree (List.take o.length (List.map encView o))) [] []) (by kernel_rfl) (by (clear again; (rw [e]; simp [List.take_of_length_le]; done))))))))))
      · cases i1
    · rcases y with _ | ⟨v, y⟩
      · cases i1
      · have hR := i2 0 u v rfl rfl
        have hu := i4 u (List.mem_cons_self ..)
        have hv := i5 v (List.mem_cons_self ..)
        simp only [List.length_cons] at i1 i3
        have i2' : ∀ (i : Nat) (s t : View), x[i]? = some s → y[i]? = some t → s.R = t.R := fun i s t hs ht => i2 (i + 1) s t hs ht
        have i4' : ∀ w ∈ x, w.Seen.length ≤ 1000 ∧ w.Epochs.length ≤ 1000 := fun w hw => i4 w (List.mem_cons_of_mem _ hw)
        have i5' : ∀ w ∈ y, w.Seen.length ≤ 1000 ∧ w.Epochs.length ≤ 1000 := fun w hw => i5 w (List.mem_cons_of_mem _ hw)
        clear i2 i4 i5
        refine (Sat.pIfE ((0 : Int) < (↑(List.map encView (u :: x)).length : Int)) ((0 : Nat) < x.length + (1 : Nat)) (by kernel_rfl) (by simp only [List.length_map, List.length_cons, ciLt]) (fun _h38 =>
         (Sat.pIfET ((0 : Int) < (↑(List.map encView (u :: x)).length : Int)) ((0 : Nat) < x.length + (1 : Nat)) (by kernel_rfl) (by simp only [List.length_map, List.length_cons, ciLt]) _h38
         (Sat.pIfET ((0 : Int) < (↑(List.map encView (u :: x)).length : Int)) ((0 : Nat) < x.length + (1 : Nat)) (by kernel_rfl) (by simp only [List.length_map, List.length_cons, ciLt]) _h38
         (Sat.pIfET ((0 : Int) < (↑(List.map encView (u :: x)).length : Int)) ((0 : Nat) < x.length + (1 : Nat)) (by kernel_rfl) (by simp only [List.length_map, List.length_cons, ciLt]) _h38
         (Sat.pNodeT true (by kernel_rfl) rfl (Sat.pNodeF false (by kernel_rfl) rfl (Sat.pNodeF false (by kernel_rfl) rfl (Sat.pNodeF false (by kernel_rfl) rfl (Sat.pNodeF false (by kernel_rfl) rfl
         (Sat.pIfET ((0 : Int) < (↑(List.map encView (u :: x)).length : Int)) ((0 : Nat) < x.length + (1 : Nat)) (by kernel_rfl) (by simp only [List.length_map, List.length_cons, ciLt]) _h38
         (Sat.pIfET ((0 : Int) < (↑(List.map encView (u :: x)).length : Int)) ((0 : Nat) < x.length + (1 : Nat)) (by kernel_rfl) (by simp only [List.length_map, List.length_cons, ciLt]) _h38
         (Sat.pNodeT true (by kernel_rfl) rfl (Sat.pElem (List.map encView (u :: x)) ((0 : Nat)) (encView u) (by kernel_rfl) rfl
         (Sat.pIfET ((0 : Int) < (↑(List.map encView (u :: x)).length : Int)) ((0 : Nat) < x.length + (1 : Nat)) (by kernel_rfl) (by simp only [List.length_map, List.length_cons, ciLt]) _h38
         (Sat.pIfET ((0 : Int) < (↑(List.map encView (u :: x)).length : Int)) ((0 : Nat) < x.length + (1 : Nat)) (by kernel_rfl) (by simp only [List.length_map, List.length_cons, ciLt]) _h38
         (Sat.pIfET ((0 : Int) < (↑(List.map encView (u :: x)).length : Int)) ((0 : Nat) < x.length + (1 : Nat)) (by kernel_rfl) (by simp only [List.length_map, List.length_cons, ciLt]) _h38
         (Sat.pIfET ((0 : Int) < (↑(List.map encView (u :: x)).length : Int)) ((0 : Nat) < x.length + (1 : Nat)) (by kernel_rfl) (by simp only [List.length_map, List.length_cons, ciLt]) _h38
         (Sat.pNodeT true (by kernel_rfl) rfl (Sat.pElem (List.map encView (v :: y)) ((0 : Nat)) (encView v) (by kernel_rfl) rfl
         (Sat.pIfET ((0 : Int) < (↑(List.map encView (u :: x)).length : Int)) ((0 : Nat) < x.length + (1 : Nat)) (by kernel_rfl) (by simp only [List.length_map, List.length_cons, ciLt]) _h38
         (Sat.pIfET ((0 : Int) < (↑(List.map encView (u :: x)).length : Int)) ((0 : Nat) < x.length + (1 : Nat)) (by kernel_rfl) (by simp only [List.length_map, List.length_cons, ciLt]) _h38
         (Sat.pIfET ((0 : Int) < (↑(List.map encView (u :: x)).length : Int)) ((0 : Nat) < x.length + (1 : Nat)) (by kernel_rfl) (by simp only [List.length_map, List.length_cons, ciLt]) _h38
         (Sat.pNodeF false (by kernel_rfl) rfl
         (Sat.pIfET ((0 : Int) < (↑(List.map encView (u :: x)).length : Int)) ((0 : Nat) < x.length + (1 : Nat)) (by kernel_rfl) (by simp only [List.length_map, List.length_cons, ciLt]) _h38
         (Sat.pNodeF false (by kernel_rfl) rfl (Sat.pIf (u.R < v.R) (by kernel_rfl) (fun _h39 => False.elim (by omega)) (fun _h39 => (Sat.pNodeF false (by kernel_rfl) rfl (Sat.pNodeF false (by kernel_rfl) rfl
         (Sat.pNodeT true (by kernel_rfl) rfl (Sat.pElem (List.map encView (v :: y)) ((0 : Nat)) (encView v) (by kernel_rfl) rfl (Sat.pNodeF false (by kernel_rfl) rfl (Sat.pNodeF false (by kernel_rfl) rfl
         (Sat.pNodeF false (by kernel_rfl) rfl (Sat.pNodeF false (by kernel_rfl) rfl (Sat.pNodeT true (by kernel_rfl) rfl (Sat.pElem (List.map encView (u :: x)) ((0 : Nat)) (encView u) (by kernel_rfl) rfl
         (Sat.pNodeF false (by kernel_rfl) rfl (Sat.pNodeF false (by kernel_rfl) rfl (Sat.pNodeF false (by kernel_rfl) rfl (Sat.pNodeF false (by kernel_rfl) rfl (Sat.pIf (v.R < u.R) (by kernel_rfl)
         (fun _h40 => False.elim (by omega)) (fun _h40 => (Sat.pNodeT true (by kernel_rfl) rfl (Sat.pElem (List.map encView (u :: x)) ((0 : Nat)) (encView u) (by kernel_rfl) rfl
         (Sat.pNodeT true (by kernel_rfl) rfl (Sat.pElem (List.map encView (v :: y)) ((0 : Nat)) (encView v) (by kernel_rfl) rfl (Sat.pIf (u.Rev < v.Rev) (by kernel_rfl) (fun _h41 =>
         (Sat.pNodeT true (by kernel_rfl) rfl (Sat.pElem (List.map encView (v :: y)) ((0 : Nat)) (encView v) (by kernel_rfl) rfl (Sat.pEszM (encView) (u :: x) (List.map encView (u :: x)) (5) (by kernel_rfl) rfl
         (fun _ => rfl)
         (Sat.pIfE ((0 : Int) ≤ (1 : Int) ∧ (1 : Int) ≤ (↑(List.map encView (u :: x)).length : Int)) ((0 : Int) ≤ (1 : Int) ∧ (1 : Nat) ≤ x.length + (1 : Nat)) (by kernel_rfl) (by simp only [List.length_map, List.length_cons, ciLe])
         (fun _h42 => (Sat.pEszM (encView) (v :: y) (List.map encView (v :: y)) (5) (by kernel_rfl) rfl (fun _ => rfl)
         (Sat.pIfE ((0 : Int) ≤ (1 : Int) ∧ (1 : Int) ≤ (↑(List.map encView (v :: y)).length : Int)) ((0 : Int) ≤ (1 : Int) ∧ (1 : Nat) ≤ y.length + (1 : Nat)) (by kernel_rfl) (by simp only [List.length_map, List.length_cons, ciLe])
         (fun _h43 =>
         (Sat.pCallE 47 ([AV.agg [AV.int IntKind.i64 v.R, AV.int IntKind.i64 v.Rev, AV.str v.Filter, AV.tree (List.map encHead v.Seen), AV.tree (List.map encI v.Epochs)]]) ([]) (by kernel_rfl) rfl rfl (@Go.Ab.Tryz.c47 (v) (by omega) (by omega))
         (Sat.pIf ((o.length + (1 : Nat)) * (80 : Nat) ≤ (140737488355328 : Nat)) (by kernel_rfl) (fun _h44 =>
         (Sat.pIfE (o.length = (List.map encView o).length) (True) (by kernel_rfl) (by simp only [List.length_map]) (fun _h45 =>
         (Sat.pAgainE (St.mk [((0 : Nat), AV.tree (List.drop (1 : Nat) (List.map encView (u :: x)))), ((1 : Nat), AV.tree (List.drop (1 : Nat) (List.map encView (v :: y)))), ((4 : Nat), AV.sref (Site.head (4 : Nat) (0 : Nat)) (0 : Nat) (o.length + (1 : Nat)))] [(Site.head (4 : Nat) (0 : Nat), Blk.row (5 : Nat) (List.map encView o ++ [AV.agg [AV.int IntKind.i64 v.R, AV.int IntKind.i64 v.Rev, AV.str v.Filter, AV.tree (List.map encHead v.Seen), AV.tree (List.map encI v.Epochs)]]) Bool.true Bool.true)]) (by kernel_rfl) (by simp [encView]) (again ((List.drop (1 : Nat) (u :: x), List.drop (1 : Nat) (v :: y), o ++ [v])) ⟨(by show (List.drop (1 : Nat) (u :: x)).length = (List.drop (1 : Nat) (v :: y)).length; (clear again; (simp; omega))), ⟨(by show ∀ (i : Nat) (x_1 y_1 : View), (List.drop (1 : Nat) (u :: x))[i]? = Option.some x_1 → (List.drop (1 : Nat) (v :: y))[i]? = Option.some y_1 → x_1.R = y_1.R; assumption), ⟨(by show (o ++ [v]).length + (List.drop (1 : Nat) (u :: x)).length ≤ (1000 : Nat); (clear again; (simp; omega))), ⟨(by show ∀ (v : View), v ∈ List.drop (1 : Nat) (u :: x) → v.Seen.length ≤ (1000 : Nat) ∧ v.Epochs.length ≤ (1000 : Nat); assumption), ⟨(by show ∀ (v_1 : View), v_1 ∈ List.drop (1 : Nat) (v :: y) → v_1.Seen.length ≤ (1000 : Nat) ∧ v_1.Epochs.length ≤ (1000 : Nat); assumption), (by show o ++ [v] ++ pickVs (List.drop (1 : Nat) (u :: x)) (List.drop (1 : Nat) (v :: y)) = pickVs a b; (clear again; (rw [← i6]; simp [pickVs, pickV, *]; done)))⟩⟩⟩⟩⟩ (by show (List.drop (1 : Nat) (u :: x)).length < (u :: x).length; (clear again; (simp; done))))))
         (fun _h45 => (_h45 trivial).elim))) (fun _h44 => False.elim (by omega))))) (fun _h43 => False.elim (by omega))))) (fun _h42 => False.elim (by omega))))))) (fun _h41 =>
         (Sat.pEszM (encView) (u :: x) (List.map encView (u :: x)) (5) (by kernel_rfl) rfl (fun _ => rfl)
         (Sat.pIfE ((0 : Int) ≤ (1 : Int) ∧ (1 : Int) ≤ (↑(List.map encView (u :: x)).length : Int)) ((0 : Int) ≤ (1 : Int) ∧ (1 : Nat) ≤ x.length + (1 : Nat)) (by kernel_rfl) (by simp only [List.length_map, List.length_cons, ciLe])
         (fun _h46 => (Sat.pEszM (encView) (v :: y) (List.map encView (v :: y)) (5) (by kernel_rfl) rfl (fun _ => rfl)
         (Sat.pIfE ((0 : Int) ≤ (1 : Int) ∧ (1 : Int) ≤ (↑(List.map encView (v :: y)).length : Int)) ((0 : Int) ≤ (1 : Int) ∧ (1 : Nat) ≤ y.length + (1 : Nat)) (by kernel_rfl) (by simp only [List.length_map, List.length_cons, ciLe])
         (fun _h47 =>
         (Sat.pCallE 47 ([AV.agg [AV.int IntKind.i64 u.R, AV.int IntKind.i64 u.Rev, AV.str u.Filter, AV.tree (List.map encHead u.Seen), AV.tree (List.map encI u.Epochs)]]) ([]) (by kernel_rfl) rfl rfl (@Go.Ab.Tryz.c47 (u) (by omega) (by omega))
         (Sat.pIf ((o.length + (1 : Nat)) * (80 : Nat) ≤ (140737488355328 : Nat)) (by kernel_rfl) (fun _h48 =>
         (Sat.pIfE (o.length = (List.map encView o).length) (True) (by kernel_rfl) (by simp only [List.length_map]) (fun _h49 =>
         (Sat.pAgainE (St.mk [((0 : Nat), AV.tree (List.drop (1 : Nat) (List.map encView (u :: x)))), ((1 : Nat), AV.tree (List.drop (1 : Nat) (List.map encView (v :: y)))), ((4 : Nat), AV.sref (Site.head (4 : Nat) (0 : Nat)) (0 : Nat) (o.length + (1 : Nat)))] [(Site.head (4 : Nat) (0 : Nat), Blk.row (5 : Nat) (List.map encView o ++ [AV.agg [AV.int IntKind.i64 u.R, AV.int IntKind.i64 u.Rev, AV.str u.Filter, AV.tree (List.map encHead u.Seen), AV.tree (List.map encI u.Epochs)]]) Bool.true Bool.true)]) (by kernel_rfl) (by simp [encView]) (again ((List.drop (1 : Nat) (u :: x), List.drop (1 : Nat) (v :: y), o ++ [u])) ⟨(by show (List.drop (1 : Nat) (u :: x)).length = (List.drop (1 : Nat) (v :: y)).length; (clear again; (simp; omega))), ⟨(by show ∀ (i : Nat) (x_1 y_1 : View), (List.drop (1 : Nat) (u :: x))[i]? = Option.some x_1 → (List.drop (1 : Nat) (v :: y))[i]? = Option.some y_1 → x_1.R = y_1.R; assumption), ⟨(by show (o ++ [u]).length + (List.drop (1 : Nat) (u :: x)).length ≤ (1000 : Nat); (clear again; (simp; omega))), ⟨(by show ∀ (v : View), v ∈ List.drop (1 : Nat) (u :: x) → v.Seen.length ≤ (1000 : Nat) ∧ v.Epochs.length ≤ (1000 : Nat); assumption), ⟨(by show ∀ (v_1 : View), v_1 ∈ List.drop (1 : Nat) (v :: y) → v_1.Seen.length ≤ (1000 : Nat) ∧ v_1.Epochs.length ≤ (1000 : Nat); assumption), (by show o ++ [u] ++ pickVs (List.drop (1 : Nat) (u :: x)) (List.drop (1 : Nat) (v :: y)) = pickVs a b; (clear again; (rw [← i6]; simp [pickVs, pickV, *]; done)))⟩⟩⟩⟩⟩ (by show (List.drop (1 : Nat) (u :: x)).length < (u :: x).length; (clear again; (simp; done))))))
         (fun _h49 => (_h49 trivial).elim))) (fun _h48 => False.elim (by omega))))) (fun _h47 => False.elim (by omega))))) (fun _h46 => False.elim (by omega)))))))))))))))))))))))))))))))))))))))))))))))))))))
         (fun _h38 => False.elim (by omega)))
theorem merge_nil (a : List View) (h : a.length ≤ 1000) (ha : ∀ v ∈ a, v.Seen.length ≤ 1000 ∧ v.Epochs.length ≤ 1000) : X.call 14 [.tree (a.map encView), .tree []] [] ⟨.tree (a.map encView), [], []⟩ := by
  refine spec_of ok Go.Proofs.Tryz.func14 ok14 ?_
  refine ?_
  refine Sat.pLoop 1 (St.mk [((0 : Nat), AV.tree (List.map encView a)), ((1 : Nat), AV.tree []), ((4 : Nat), AV.sref (Site.head (4 : Nat) (0 : Nat)) (0 : Nat) (0 : Nat))] [(Site.head (4 : Nat) (0 : Nat), Blk.row (5 : Nat) [] Bool.true Bool.true)]) (by kernel_rfl) (fun (p : List View × List View) => ⟨[(0, .tree (p.1.map encView)), (1, .tree []), (4, .sref (.head 4 0) 0 p.2.length)], [(.head 4 0, .row 5 (p.2.map encView) true true)]⟩) (fun p => p.2.length + p.1.length ≤ 1000 ∧ (∀ v ∈ p.1, v.Seen.length ≤ 1000 ∧ v.Epochs.length ≤ 1000) ∧ p.2 ++ p.1 = a) (fun p => p.1.length) (a, []) rfl ?_ ?_
  · exact ⟨by simpa using h, ha, rfl⟩
  · rintro ⟨x, o⟩ hI again
    obtain ⟨i3, i4, i6⟩ := hI
    simp only at i3 i4 i6
    rcases x with _ | ⟨u, x⟩
    · have e : o = a := by rw [← i6]; simp
      refine (Sat.pNodeF false (by kernel_rfl) rfl (Sat.pNodeF false (by kernel_rfl) rfl (Sat.pNodeF false (by kernel_rfl) rfl (Sat.pNodeF false (by kernel_rfl) rfl (Sat.pNodeF false (by kernel_rfl) rfl
       (have _w11 : List.take o.length (List.map encView o) = List.map encView o := List.take_of_length_le (by simp);
       (Sat.pRet (Res.mk (AV.tree (List.take o.length (List.map encView o))) [] []) (by kernel_rfl) (by (clear again; (rw [e]; simp [List.take_of_length_le]; done))))))))))
    · have hu := i4 u (List.mem_cons_self ..)
      simp only [List.length_cons] at i3
      have i4' : ∀ w ∈ x, w.Seen.length ≤ 1000 ∧ w.Epochs.length ≤ 1000 := fun w hw => i4 w (List.mem_cons_of_mem _ hw)
      clear i4
      refine (Sat.pIfE ((0 : Int) < (↑(List.map encView (u :: x)).length : Int)) ((0 : Nat) < x.length + (1 : Nat)) (by kernel_rfl) (by simp only [List.length_map, List.length_cons, ciLt]) (fun _h14 =>
       (Sat.pIfET ((0 : Int) < (↑(List.map encView (u :: x)).length : Int)) ((0 : Nat) < x.length + (1 : Nat)) (by kernel_rfl) (by simp only [List.length_map, List.length_cons, ciLt]) _h14
       (Sat.pIfET ((0 : Int) < (↑(List.map encView (u :: x)).length : Int)) ((0 : Nat) < x.length + (1 : Nat)) (by kernel_rfl) (by simp only [List.length_map, List.length_cons, ciLt]) _h14
       (Sat.pIfET ((0 : Int) < (↑(List.map encView (u :: x)).length : Int)) ((0 : Nat) < x.length + (1 : Nat)) (by kernel_rfl) (by simp only [List.length_map, List.length_cons, ciLt]) _h14
       (Sat.pNodeT true (by kernel_rfl) rfl (Sat.pNodeT true (by kernel_rfl) rfl (Sat.pNodeT true (by kernel_rfl) rfl (Sat.pNodeT true (by kernel_rfl) rfl (Sat.pNodeT true (by kernel_rfl) rfl
       (Sat.pNodeT true (by kernel_rfl) rfl (Sat.pNodeT true (by kernel_rfl) rfl (Sat.pNodeT true (by kernel_rfl) rfl (Sat.pNodeT true (by kernel_rfl) rfl
       (Sat.pElem (List.map encView (u :: x)) ((0 : Nat)) (encView u) (by kernel_rfl) rfl (Sat.pEszM (encView) (u :: x) (List.map encView (u :: x)) (5) (by kernel_rfl) rfl (fun _ => rfl)
       (Sat.pIfE ((0 : Int) ≤ (1 : Int) ∧ (1 : Int) ≤ (↑(List.map encView (u :: x)).length : Int)) ((0 : Int) ≤ (1 : Int) ∧ (1 : Nat) ≤ x.length + (1 : Nat)) (by kernel_rfl) (by simp only [List.length_map, List.length_cons, ciLe])
       (fun _h15 =>
       (Sat.pCallE 47 ([AV.agg [AV.int IntKind.i64 u.R, AV.int IntKind.i64 u.Rev, AV.str u.Filter, AV.tree (List.map encHead u.Seen), AV.tree (List.map encI u.Epochs)]]) ([]) (by kernel_rfl) rfl rfl (@Go.Ab.Tryz.c47 (u) (by omega) (by omega))
       (Sat.pIf ((o.length + (1 : Nat)) * (80 : Nat) ≤ (140737488355328 : Nat)) (by kernel_rfl) (fun _h16 =>
       (Sat.pIfE (o.length = (List.map encView o).length) (True) (by kernel_rfl) (by simp only [List.length_map]) (fun _h17 =>
       (Sat.pAgainE (St.mk [((0 : Nat), AV.tree (List.drop (1 : Nat) (List.map encView (u :: x)))), ((1 : Nat), AV.tree []), ((4 : Nat), AV.sref (Site.head (4 : Nat) (0 : Nat)) (0 : Nat) (o.length + (1 : Nat)))] [(Site.head (4 : Nat) (0 : Nat), Blk.row (5 : Nat) (List.map encView o ++ [AV.agg [AV.int IntKind.i64 u.R, AV.int IntKind.i64 u.Rev, AV.str u.Filter, AV.tree (List.map encHead u.Seen), AV.tree (List.map encI u.Epochs)]]) Bool.true Bool.true)]) (by kernel_rfl) (by simp [encView]) (again ((List.drop (1 : Nat) (u :: x), o ++ [u])) ⟨(by show (o ++ [u]).length + (List.drop (1 : Nat) (u :: x)).length ≤ (1000 : Nat); (clear again; (simp; omega))), ⟨(by show ∀ (v : View), v ∈ List.drop (1 : Nat) (u :: x) → v.Seen.length ≤ (1000 : Nat) ∧ v.Epochs.length ≤ (1000 : Nat); assumption), (by show o ++ [u] ++ List.drop (1 : Nat) (u :: x) = a; (clear again; (simp; omega)))⟩⟩ (by show (List.drop (1 : Nat) (u :: x)).length < (u :: x).length; (clear again; (simp; done))))))
       (fun _h17 => (_h17 trivial).elim))) (fun _h16 => False.elim (by omega))))) (fun _h15 => False.elim (by omega)))))))))))))))))) (fun _h14 => False.elim (by omega)))
end Go.Ab.Tryz
