/- VputBack: whatever it is handed, it answers true. -/
import Derived.Test.YtmkkhaonakdgpaaDoorVputj
namespace Go.Ab.Tryd
open Go
set_option maxRecDepth 100000
set_option maxHeartbeats 4000000
theorem take_yes (v : Version) (h : v.may = true) (rest : List UInt8) (hr : rest.length ≤ 9000) : X.call 7 [.tree ((putVers [] v ++ rest).map encB)] [] ⟨.tuple [encVersion v, .int .i64 ((putVers [] v).length : Nat), .bool true], [], []⟩ := by
  have hlen := putVers_len [] v
  have c1 := version_yes v h rest (by omega)
  have f := Version.may_fit h
  refine spec_of ok Go.Proofs.Tryd.func7 ok7 ?_
  refine
   (Sat.pCallE 12 ([AV.ref (Site.inc (0 : Nat)) (0 : Nat) (0 : Nat)]) ([Blk.box (AV.agg [AV.tree (List.map encB (putVers [] v ++ rest)), AV.int IntKind.i64 (0 : Int), AV.nili]) Bool.true]) (by kernel_rfl) rfl rfl (@c1)
   (Sat.pCallE 13 ([AV.nili, AV.iface (49 : Nat) (AV.ref (Site.inc (0 : Nat)) (0 : Nat) (0 : Nat))]) ([Blk.box (AV.agg [AV.str []]) Bool.true]) (by kernel_rfl) rfl rfl (ev_ok envOk 1000 (13) ([AV.nili, AV.iface (49 : Nat) (AV.ref (Site.inc (0 : Nat)) (0 : Nat) (0 : Nat))]) ([Blk.box (AV.agg [AV.str []]) Bool.true]) (Res.mk (AV.bool Bool.false) [Blk.box (AV.agg [AV.str []]) Bool.true] []) (by kernel_rfl))
   (Sat.pNodeF false (by kernel_rfl) rfl (Sat.pNodeF false (by kernel_rfl) rfl (Sat.pNodeF false (by kernel_rfl) rfl (Sat.pNodeF false (by kernel_rfl) rfl (Sat.pNodeF false (by kernel_rfl) rfl
   (Sat.pNodeF false (by kernel_rfl) rfl (Sat.pNodeF false (by kernel_rfl) rfl
   (Sat.pIfE ((0 : Int) ≤ (↑(putVers [] v).length : Int) ∧ (↑(putVers [] v).length : Int) ≤ (↑(List.map encB (putVers [] v ++ rest)).length : Int)) ((0 : Nat) ≤ (putVers [] v).length ∧ (putVers [] v).length ≤ (putVers [] v).length + rest.length) (by kernel_rfl) (by simp only [List.length_map, List.length_append, Int.ofNat_le, ciLe])
   (fun _h8 => (Sat.pNodeF false (by kernel_rfl) rfl
   (Sat.pEszM (encB) (List.take (↑(putVers [] v).length : Int).toNat (putVers [] v ++ rest)) (List.take (↑(putVers [] v).length : Int).toNat (List.map encB (putVers [] v ++ rest))) (1) (by kernel_rfl) (by simp)
   (fun _ => rfl)
   (Sat.pBytes (List.take (↑(putVers [] v).length : Int).toNat (List.map encB (putVers [] v ++ rest))) (List.take (↑(putVers [] v).length : Int).toNat (putVers [] v ++ rest)) (by kernel_rfl) (by simp [encB_fun])
   (Sat.pNodeF false (by kernel_rfl) rfl
   (Sat.pCallE 8 ([AV.tree [], AV.agg [AV.int IntKind.i64 v.Item, AV.int IntKind.i64 v.S.L, AV.int IntKind.i64 v.S.R, AV.int IntKind.i64 v.S.N, AV.bool v.Dead, AV.tree (List.map encAttr v.Attrs), AV.str v.Tag, AV.str v.Body]]) ([]) (by kernel_rfl) rfl rfl (@Go.Ab.Tryd.c8b (v) (by assumption))
   (Sat.pNodeF false (by kernel_rfl) rfl (Sat.pEszM (encB) (putVers [] v) (List.map encB (putVers [] v)) (1) (by kernel_rfl) rfl (fun _ => rfl)
   (Sat.pBytes (List.map encB (putVers [] v)) (putVers [] v) (by kernel_rfl) rfl (Sat.pNodeF false (by kernel_rfl) rfl (Sat.pNodeF false (by kernel_rfl) rfl
   (Sat.pIfEN (putVers [] v = List.take (↑(putVers [] v).length : Int).toNat (putVers [] v ++ rest)) (putVers [] v = List.take (putVers [] v).length (putVers [] v ++ rest)) (by kernel_rfl) (by simp only [Int.toNat_natCast])
   (fun _h9 =>
   (Sat.pRet (Res.mk (AV.tuple [AV.agg [AV.int IntKind.i64 (0 : Int), AV.int IntKind.i64 (0 : Int), AV.int IntKind.i64 (0 : Int), AV.int IntKind.i64 (0 : Int), AV.bool Bool.false, AV.tree [], AV.str [], AV.str []], AV.int IntKind.i64 (0 : Int), AV.bool Bool.false]) [] []) (by kernel_rfl) (by (clear c1; simp_all))))
   (fun _h9 =>
   (Sat.pRet (Res.mk (AV.tuple [AV.agg [AV.int IntKind.i64 v.Item, AV.int IntKind.i64 v.S.L, AV.int IntKind.i64 v.S.R, AV.int IntKind.i64 v.S.N, AV.bool v.Dead, AV.tree (List.map encAttr v.Attrs), AV.str v.Tag, AV.str v.Body], AV.int IntKind.i64 (↑(putVers [] v).length : Int), AV.bool Bool.true]) [] []) (by kernel_rfl) rfl))))))))))))))
   (fun _h8 => False.elim (by omega))))))))))))
theorem c13a (s : List UInt8) (hs : s ∈ whats) : X.call 13 [.iface 63 (.agg [.iface 47 (.agg [.str s])]), .iface 49 (.ref (.inc 0) 0 0)] [.box (.agg [.str []]) true] ⟨.bool true, [.box (.agg [.str s]) true], []⟩ := by
  simp only [whats, List.mem_cons, List.not_mem_nil, or_false] at hs
  rcases hs with rfl | rfl | rfl | rfl | rfl | rfl | rfl | rfl | rfl | rfl | rfl <;> exact ev_ok envOk 1000 _ _ _ _ (by kernel_rfl)
theorem take_no (b : List UInt8) (hb : b.length ≤ 10000) (hno : ∀ v rest, v.may = true → b ≠ putVers [] v ++ rest) : X.call 7 [.tree (b.map encB)] [] ⟨.tuple [encVersion Version.zero, .int .i64 0, .bool false], [], []⟩ := by
  obtain ⟨⟨v, k, s⟩, c1, hs, hk⟩ := version_no b hb hno
  simp only at c1 hs hk
  rw [show encErr (some s) = .iface 63 (.agg [.iface 47 (.agg [.str s])]) from rfl] at c1
  refine spec_of ok Go.Proofs.Tryd.func7 ok7 ?_
  refine (Sat.pCallE 12 ([AV.ref (Site.inc (0 : Nat)) (0 : Nat) (0 : Nat)]) ([Blk.box (AV.agg [AV.tree (List.map encB b), AV.int IntKind.i64 (0 : Int), AV.nili]) Bool.true]) (by kernel_rfl) rfl rfl (@c1)
   (Sat.pCallE 13 ([AV.iface (63 : TypeId) (AV.agg [AV.iface (47 : TypeId) (AV.agg [AV.str s])]), AV.iface (49 : Nat) (AV.ref (Site.inc (0 : Nat)) (0 : Nat) (0 : Nat))]) ([Blk.box (AV.agg [AV.str []]) Bool.true]) (by kernel_rfl) rfl rfl (@Go.Ab.Tryd.c13a (s) (by assumption))
   (Sat.pNodeT true (by kernel_rfl) rfl (Sat.pNodeT true (by kernel_rfl) rfl (Sat.pNodeT true (by kernel_rfl) rfl (Sat.pNodeT true (by kernel_rfl) rfl (Sat.pNodeT true (by kernel_rfl) rfl
   (Sat.pNodeT true (by kernel_rfl) rfl (Sat.pNodeT true (by kernel_rfl) rfl (Sat.pNodeT true (by kernel_rfl) rfl (Sat.pNodeT true (by kernel_rfl) rfl (Sat.pNodeT true (by kernel_rfl) rfl
   (Sat.pNodeT true (by kernel_rfl) rfl (Sat.pNodeT true (by kernel_rfl) rfl (Sat.pNodeT true (by kernel_rfl) rfl
   (Sat.pRet (Res.mk (AV.tuple [AV.agg [AV.int IntKind.i64 (0 : Int), AV.int IntKind.i64 (0 : Int), AV.int IntKind.i64 (0 : Int), AV.int IntKind.i64 (0 : Int), AV.bool Bool.false, AV.tree [], AV.str [], AV.str []], AV.int IntKind.i64 (0 : Int), AV.bool Bool.false]) [] []) (by kernel_rfl) rfl))))))))))))))))
theorem cut_no {v : Version} (h : v.may = true) {c : Nat} (hc : c < (putVers [] v).length) : ∀ w rest, w.may = true → (putVers [] v).take c ≠ putVers [] w ++ rest := fun w rest hw e => by
  have h1 := List.take_append_drop c (putVers [] v)
  rw [e, List.append_assoc] at h1
  obtain ⟨rfl, h2⟩ := vers_inj (x := rest ++ (putVers [] v).drop c) (y := []) hw h (by rw [h1]; simp)
  have h3 := congrArg List.length e
  simp only [List.length_take, List.length_append] at h3
  omega
theorem c6 : X.call 6 [] [] ⟨.bool true, [], []⟩ := evT_ok envOk (by kernel_rfl)
theorem c4 (x0 x1 : List UInt8) (x2 : UInt8) : X.call 4 [.tree (x0.map encB), .tree (x1.map encB), encB x2] [] ⟨.bool true, [], []⟩ := by
  have hv := (Picks.mk x0 0).version_may
  have tv := (Picks.mk x0 0).version_parts.2.1
  have lv := (Picks.mk x0 0).version_like.attrs
  have nv := List.length_pos_iff.2 (putVers_nil hv)
  have hlen := putVers_len [] (Picks.mk x0 0).version.1
  simp only [List.length_nil] at hlen
  have htm : (x2.toNat : Int).tmod ((putVers [] (Picks.mk x0 0).version.1).length : Int) = ((x2.toNat % (putVers [] (Picks.mk x0 0).version.1).length : Nat) : Int) := by
    rw [Int.tmod_eq_emod_of_nonneg (by omega), Int.natCast_emod]
  have hlt := Nat.mod_lt x2.toNat nv
  by_cases h1 : x1.length ≤ 20
  · have d1 := take_yes _ hv x1 (by omega)
    have d2 := take_no _ (by rw [List.length_take]; omega) (cut_no hv hlt)
    generalize x2.toNat % (putVers [] (Picks.mk x0 0).version.1).length = c at *
    refine spec_of ok Go.Proofs.Tryd.func4 ok4 ?_
    refine (Sat.pCallE 6 ([]) ([]) (by kernel_rfl) rfl rfl (@Go.Ab.Tryd.c6) (Sat.pNodeF false (by kernel_rfl) rfl
     (Sat.pIfE ((20 : Int) < (↑(List.map encB x0).length : Int)) ((20 : Nat) < x0.length) (by kernel_rfl) (by simp only [List.length_map, ciLt]) (fun _h17 =>
     (Sat.pIfET ((20 : Int) < (↑(List.map encB x0).length : Int)) ((20 : Nat) < x0.length) (by kernel_rfl) (by simp only [List.length_map, ciLt]) _h17
     (Sat.pIfET ((20 : Int) < (↑(List.map encB x0).length : Int)) ((20 : Nat) < x0.length) (by kernel_rfl) (by simp only [List.length_map, ciLt]) _h17
     (Sat.pIfET ((20 : Int) < (↑(List.map encB x0).length : Int)) ((20 : Nat) < x0.length) (by kernel_rfl) (by simp only [List.length_map, ciLt]) _h17 (Sat.pNodeT true (by kernel_rfl) rfl
     (Sat.pRet (Res.mk (AV.bool Bool.true) [] []) (by kernel_rfl) rfl)))))) (fun _h17 =>
     (Sat.pIfEF ((20 : Int) < (↑(List.map encB x0).length : Int)) ((20 : Nat) < x0.length) (by kernel_rfl) (by simp only [List.length_map, ciLt]) _h17
     (Sat.pIfEF ((20 : Int) < (↑(List.map encB x0).length : Int)) ((20 : Nat) < x0.length) (by kernel_rfl) (by simp only [List.length_map, ciLt]) _h17
     (Sat.pIfEF ((20 : Int) < (↑(List.map encB x0).length : Int)) ((20 : Nat) < x0.length) (by kernel_rfl) (by simp only [List.length_map, ciLt]) _h17
     (Sat.pIfE ((20 : Int) < (↑(List.map encB x1).length : Int)) ((20 : Nat) < x1.length) (by kernel_rfl) (by simp only [List.length_map, ciLt]) (fun _h18 => False.elim (by omega)) (fun _h18 =>
     (Sat.pCallE 9 ([AV.tree (List.map encB x0)]) ([]) (by kernel_rfl) rfl rfl (@Go.Ab.Tryd.c9 (x0))
     (Sat.pCallE 10 ([AV.ref (Site.inc (0 : Nat)) (0 : Nat) (0 : Nat)]) ([Blk.box (AV.agg [AV.tree (List.map encB x0), AV.int IntKind.i64 (0 : Int)]) Bool.true]) (by kernel_rfl) rfl rfl (@Go.Ab.Tryd.c10 (Picks.mk x0 (0 : Nat)) (by show x0.length ≤ (100000 : Nat); omega))
     (Sat.pCallE 8 ([AV.tree [], AV.agg [AV.int IntKind.i64 (Picks.mk x0 (0 : Nat)).version.fst.Item, AV.int IntKind.i64 (Picks.mk x0 (0 : Nat)).version.fst.S.L, AV.int IntKind.i64 (Picks.mk x0 (0 : Nat)).version.fst.S.R, AV.int IntKind.i64 (Picks.mk x0 (0 : Nat)).version.fst.S.N, AV.bool (Picks.mk x0 (0 : Nat)).version.fst.Dead, AV.tree (List.map encAttr (Picks.mk x0 (0 : Nat)).version.fst.Attrs), AV.str (Picks.mk x0 (0 : Nat)).version.fst.Tag, AV.str (Picks.mk x0 (0 : Nat)).version.fst.Body]]) ([]) (by kernel_rfl) rfl rfl (@Go.Ab.Tryd.c8 ((Picks.mk x0 (0 : Nat)).version.fst) (by omega) (by assumption))
     (Sat.pIfE ((↑(List.map encB (putVers [] (Picks.mk x0 (0 : Nat)).version.fst)).length : Int) = (0 : Int)) ((putVers [] (Picks.mk x0 (0 : Nat)).version.fst).length = (0 : Nat)) (by kernel_rfl) (by simp only [List.length_map, icEq])
     (fun _h19 => False.elim (by omega)) (fun _h19 =>
     (Sat.pEszM (encB) (putVers [] (Picks.mk x0 (0 : Nat)).version.fst) (List.map encB (putVers [] (Picks.mk x0 (0 : Nat)).version.fst)) (1) (by kernel_rfl) rfl (fun _ => rfl)
     (Sat.pIfE (((0 : Nat) + (List.map encB (putVers [] (Picks.mk x0 (0 : Nat)).version.fst)).length) * (1 : Nat) ≤ (140737488355328 : Nat)) (((0 : Nat) + (putVers [] (Picks.mk x0 (0 : Nat)).version.fst).length) * (1 : Nat) ≤ (140737488355328 : Nat)) (by kernel_rfl) (by simp only [List.length_map])
     (fun _h20 => (Sat.pNodeT true (by kernel_rfl) rfl (Sat.pEszM (encB) (x1) (List.map encB x1) (1) (by kernel_rfl) rfl (fun _ => rfl)
     (Sat.pIfE (((0 : Nat) + (List.map encB (putVers [] (Picks.mk x0 (0 : Nat)).version.fst)).length + (List.map encB x1).length) * (1 : Nat) ≤ (140737488355328 : Nat)) (((0 : Nat) + (putVers [] (Picks.mk x0 (0 : Nat)).version.fst).length + x1.length) * (1 : Nat) ≤ (140737488355328 : Nat)) (by kernel_rfl) (by simp only [List.length_map])
     (fun _h21 =>
     (Sat.pIfE ((0 : Nat) + (List.map encB (putVers [] (Picks.mk x0 (0 : Nat)).version.fst)).length = (List.map encB (putVers [] (Picks.mk x0 (0 : Nat)).version.fst)).length) ((0 : Nat) + (putVers [] (Picks.mk x0 (0 : Nat)).version.fst).length = (putVers [] (Picks.mk x0 (0 : Nat)).version.fst).length) (by kernel_rfl) (by simp only [List.length_map])
     (fun _h22 =>
     (have _w23 : List.take ((0 : Nat) + (List.map encB (putVers [] (Picks.mk x0 (0 : Nat)).version.fst)).length + (List.map encB x1).length) (List.map encB (putVers [] (Picks.mk x0 (0 : Nat)).version.fst) ++ List.map encB x1) = List.map encB (putVers [] (Picks.mk x0 (0 : Nat)).version.fst) ++ List.map encB x1 := List.take_of_length_le (by simp);
     (Sat.pCallE 7 ([AV.tree (List.take ((0 : Nat) + (List.map encB (putVers [] (Picks.mk x0 (0 : Nat)).version.fst)).length + (List.map encB x1).length) (List.map encB (putVers [] (Picks.mk x0 (0 : Nat)).version.fst) ++ List.map encB x1))]) ([]) (by kernel_rfl) (by simp [List.take_of_length_le]) rfl (@d1)
     (Sat.pIfET ((↑(List.map encB (putVers [] (Picks.mk x0 (0 : Nat)).version.fst)).length : Int) ≠ (0 : Int)) (¬(putVers [] (Picks.mk x0 (0 : Nat)).version.fst).length = (0 : Nat)) (by kernel_rfl) (by simp only [List.length_map, icEq, ne_eq]) _h19
     (have _u24 : x2.toNat < (256 : Nat) := UInt8.toNat_lt _; (have _w25 : IntKind.i64.wrap (↑x2.toNat : Int) = (↑x2.toNat : Int) := wI64 (by omega) (by omega);
     (Sat.pIfE ((0 : Int) ≤ (IntKind.i64.wrap (↑x2.toNat : Int)).tmod (↑(List.map encB (putVers [] (Picks.mk x0 (0 : Nat)).version.fst)).length : Int) ∧ (IntKind.i64.wrap (↑x2.toNat : Int)).tmod (↑(List.map encB (putVers [] (Picks.mk x0 (0 : Nat)).version.fst)).length : Int) ≤ (↑(List.map encB (putVers [] (Picks.mk x0 (0 : Nat)).version.fst)).length : Int)) ((0 : Int) ≤ (↑x2.toNat : Int).tmod (↑(putVers [] (Picks.mk x0 (0 : Nat)).version.fst).length : Int) ∧ (↑x2.toNat : Int).tmod (↑(putVers [] (Picks.mk x0 (0 : Nat)).version.fst).length : Int) ≤ (↑(putVers [] (Picks.mk x0 (0 : Nat)).version.fst).length : Int)) (by kernel_rfl) (by simp only [List.length_map, _w25])
     (fun _h26 =>
     (Sat.pCallE 7 ([AV.tree (List.take ((IntKind.i64.wrap (↑x2.toNat : Int)).tmod (↑(List.map encB (putVers [] (Picks.mk x0 (0 : Nat)).version.fst)).length : Int)).toNat (List.map encB (putVers [] (Picks.mk x0 (0 : Nat)).version.fst)))]) ([]) (by kernel_rfl) (by (clear d1 d2; (simp [_w25, _w23]; omega))) rfl (@d2)
     (Sat.pNodeT true (by kernel_rfl) rfl (Sat.pNodeT true (by kernel_rfl) rfl (Sat.pNodeT true (by kernel_rfl) rfl (Sat.pNodeT true (by kernel_rfl) rfl (Sat.pNodeT true (by kernel_rfl) rfl
     (Sat.pIfE ((↑(putVers [] (Picks.mk x0 (0 : Nat)).version.fst).length : Int) = (↑(List.map encB (putVers [] (Picks.mk x0 (0 : Nat)).version.fst)).length : Int)) (True) (by kernel_rfl) (by simp only [List.length_map])
     (fun _h27 =>
     (Sat.pIfET ((↑(putVers [] (Picks.mk x0 (0 : Nat)).version.fst).length : Int) = (↑(List.map encB (putVers [] (Picks.mk x0 (0 : Nat)).version.fst)).length : Int)) (True) (by kernel_rfl) (by simp only [List.length_map]) _h27
     (Sat.pIfET ((↑(putVers [] (Picks.mk x0 (0 : Nat)).version.fst).length : Int) = (↑(List.map encB (putVers [] (Picks.mk x0 (0 : Nat)).version.fst)).length : Int)) (True) (by kernel_rfl) (by simp only [List.length_map]) _h27
     (Sat.pCallE 11 ([AV.agg [AV.int IntKind.i64 (Picks.mk x0 (0 : Nat)).version.fst.Item, AV.int IntKind.i64 (Picks.mk x0 (0 : Nat)).version.fst.S.L, AV.int IntKind.i64 (Picks.mk x0 (0 : Nat)).version.fst.S.R, AV.int IntKind.i64 (Picks.mk x0 (0 : Nat)).version.fst.S.N, AV.bool (Picks.mk x0 (0 : Nat)).version.fst.Dead, AV.tree (List.map encAttr (Picks.mk x0 (0 : Nat)).version.fst.Attrs), AV.str (Picks.mk x0 (0 : Nat)).version.fst.Tag, AV.str (Picks.mk x0 (0 : Nat)).version.fst.Body], AV.agg [AV.int IntKind.i64 (Picks.mk x0 (0 : Nat)).version.fst.Item, AV.int IntKind.i64 (Picks.mk x0 (0 : Nat)).version.fst.S.L, AV.int IntKind.i64 (Picks.mk x0 (0 : Nat)).version.fst.S.R, AV.int IntKind.i64 (Picks.mk x0 (0 : Nat)).version.fst.S.N, AV.bool (Picks.mk x0 (0 : Nat)).version.fst.Dead, AV.tree (List.map encAttr (Picks.mk x0 (0 : Nat)).version.fst.Attrs), AV.str (Picks.mk x0 (0 : Nat)).version.fst.Tag, AV.str (Picks.mk x0 (0 : Nat)).version.fst.Body]]) ([]) (by kernel_rfl) rfl rfl (@Go.Ab.Tryd.c11 ((Picks.mk x0 (0 : Nat)).version.fst) ((Picks.mk x0 (0 : Nat)).version.fst) (by omega))
     (Sat.pIfET ((↑(putVers [] (Picks.mk x0 (0 : Nat)).version.fst).length : Int) = (↑(List.map encB (putVers [] (Picks.mk x0 (0 : Nat)).version.fst)).length : Int)) (True) (by kernel_rfl) (by simp only [List.length_map]) _h27
     (Sat.pIfET ((Picks.mk x0 (0 : Nat)).version.fst = (Picks.mk x0 (0 : Nat)).version.fst) (True) (by kernel_rfl) (by simp only []) _h27
     (Sat.pIfET ((Picks.mk x0 (0 : Nat)).version.fst = (Picks.mk x0 (0 : Nat)).version.fst) (True) (by kernel_rfl) (by simp only []) _h27
     (Sat.pIfET ((Picks.mk x0 (0 : Nat)).version.fst = (Picks.mk x0 (0 : Nat)).version.fst) (True) (by kernel_rfl) (by simp only []) _h27
     (Sat.pRet (Res.mk (AV.bool !Bool.false) [] []) (by kernel_rfl) rfl))))))))) (fun _h27 => (_h27 trivial).elim))))))))) (fun _h26 => False.elim (by omega))))))))) (fun _h22 => False.elim (by omega))))
     (fun _h21 => False.elim (by omega)))))) (fun _h20 => False.elim (by omega))))))))))))))))))
  · refine spec_of ok Go.Proofs.Tryd.func4 ok4 ?_
    refine (Sat.pCallE 6 ([]) ([]) (by kernel_rfl) rfl rfl (@Go.Ab.Tryd.c6) (Sat.pNodeF false (by kernel_rfl) rfl
     (Sat.pIfE ((20 : Int) < (↑(List.map encB x0).length : Int)) ((20 : Nat) < x0.length) (by kernel_rfl) (by simp only [List.length_map, ciLt]) (fun _h12 =>
     (Sat.pIfET ((20 : Int) < (↑(List.map encB x0).length : Int)) ((20 : Nat) < x0.length) (by kernel_rfl) (by simp only [List.length_map, ciLt]) _h12
     (Sat.pIfET ((20 : Int) < (↑(List.map encB x0).length : Int)) ((20 : Nat) < x0.length) (by kernel_rfl) (by simp only [List.length_map, ciLt]) _h12
     (Sat.pIfET ((20 : Int) < (↑(List.map encB x0).length : Int)) ((20 : Nat) < x0.length) (by kernel_rfl) (by simp only [List.length_map, ciLt]) _h12 (Sat.pNodeT true (by kernel_rfl) rfl
     (Sat.pRet (Res.mk (AV.bool Bool.true) [] []) (by kernel_rfl) rfl)))))) (fun _h12 =>
     (Sat.pIfEF ((20 : Int) < (↑(List.map encB x0).length : Int)) ((20 : Nat) < x0.length) (by kernel_rfl) (by simp only [List.length_map, ciLt]) _h12
     (Sat.pIfEF ((20 : Int) < (↑(List.map encB x0).length : Int)) ((20 : Nat) < x0.length) (by kernel_rfl) (by simp only [List.length_map, ciLt]) _h12
     (Sat.pIfEF ((20 : Int) < (↑(List.map encB x0).length : Int)) ((20 : Nat) < x0.length) (by kernel_rfl) (by simp only [List.length_map, ciLt]) _h12
     (Sat.pIfE ((20 : Int) < (↑(List.map encB x1).length : Int)) ((20 : Nat) < x1.length) (by kernel_rfl) (by simp only [List.length_map, ciLt]) (fun _h13 =>
     (Sat.pRet (Res.mk (AV.bool Bool.true) [] []) (by kernel_rfl) rfl)) (fun _h13 => False.elim (by omega))))))))))
theorem law_VputBack (x0 x1 : List UInt8) (x2 : UInt8) (_h0 : (∀ x ∈ x0, True) ∧ x0.length ≤ maxLen) (_h1 : (∀ x ∈ x1, True) ∧ x1.length ≤ maxLen) (_h2 : True) : X.call 4 [.tree (x0.map encB), .tree (x1.map encB), encB x2] [] ⟨.bool true, [], []⟩ := c4 x0 x1 x2
end Go.Ab.Tryd
