/- VputBack: whatever it is handed, it answers true. -/
import Derived.Test.YtodelhgblkhjgaaGreatDoorVputj
namespace Go.Ab.Tryz
open Go
set_option maxRecDepth 100000
set_option maxHeartbeats 4000000
theorem take_yes (v : Version) (h : v.may = true) (rest : List UInt8) (hr : rest.length ≤ 9000) : X.call 8 [.tree ((putVers [] v ++ rest).map encB)] [] ⟨.tuple [encVersion v, .int .i64 ((putVers [] v).length : Nat), .bool true], [], []⟩ := by
  have hlen := putVers_len [] v
  have c1 := version_yes v h rest (by omega)
  have f := Version.may_fit h
  refine spec_of ok Go.Proofs.Tryz.func8 ok8 ?_
  refine
   (Sat.pCallE 17 ([AV.ref (Site.inc (0 : Nat)) (0 : Nat) (0 : Nat)]) ([Blk.box (AV.agg [AV.tree (List.map encB (putVers [] v ++ rest)), AV.int IntKind.i64 (0 : Int), AV.nili]) Bool.true]) (by kernel_rfl) rfl rfl (@c1)
   (Sat.pCallE 18 ([AV.nili, AV.iface (53 : Nat) (AV.ref (Site.inc (0 : Nat)) (0 : Nat) (0 : Nat))]) ([Blk.box (AV.agg [AV.str []]) Bool.true]) (by kernel_rfl) rfl rfl (ev_ok envOk 1000 (18) ([AV.nili, AV.iface (53 : Nat) (AV.ref (Site.inc (0 : Nat)) (0 : Nat) (0 : Nat))]) ([Blk.box (AV.agg [AV.str []]) Bool.true]) (Res.mk (AV.bool Bool.false) [Blk.box (AV.agg [AV.str []]) Bool.true] []) (by kernel_rfl))
   (Sat.pNodeF false (by kernel_rfl) rfl (Sat.pNodeF false (by kernel_rfl) rfl (Sat.pNodeF false (by kernel_rfl) rfl (Sat.pNodeF false (by kernel_rfl) rfl (Sat.pNodeF false (by kernel_rfl) rfl
   (Sat.pNodeF false (by kernel_rfl) rfl (Sat.pNodeF false (by kernel_rfl) rfl
   (Sat.pIfE ((0 : Int) ≤ (↑(putVers [] v).length : Int) ∧ (↑(putVers [] v).length : Int) ≤ (↑(List.map encB (putVers [] v ++ rest)).length : Int)) ((0 : Nat) ≤ (putVers [] v).length ∧ (putVers [] v).length ≤ (putVers [] v).length + rest.length) (by kernel_rfl) (by simp only [List.length_map, List.length_append, Int.ofNat_le, ciLe])
   (fun _h8 => (Sat.pNodeF false (by kernel_rfl) rfl
   (Sat.pEszM (encB) (List.take (↑(putVers [] v).length : Int).toNat (putVers [] v ++ rest)) (List.take (↑(putVers [] v).length : Int).toNat (List.map encB (putVers [] v ++ rest))) (1) (by kernel_rfl) (by simp)
   (fun _ => rfl)
   (Sat.pBytes (List.take (↑(putVers [] v).length : Int).toNat (List.map encB (putVers [] v ++ rest))) (List.take (↑(putVers [] v).length : Int).toNat (putVers [] v ++ rest)) (by kernel_rfl) (by simp [encB_fun])
   (Sat.pNodeF false (by kernel_rfl) rfl
   (Sat.pCallE 10 ([AV.tree [], AV.agg [AV.int IntKind.i64 v.Item, AV.int IntKind.i64 v.S.L, AV.int IntKind.i64 v.S.R, AV.int IntKind.i64 v.S.N, AV.bool v.Dead, AV.tree (List.map encAttr v.Attrs), AV.str v.Tag, AV.str v.Body]]) ([]) (by kernel_rfl) rfl rfl (@Go.Ab.Tryz.c10b (v) (by assumption))
   (Sat.pNodeF false (by kernel_rfl) rfl (Sat.pEszM (encB) (putVers [] v) (List.map encB (putVers [] v)) (1) (by kernel_rfl) rfl (fun _ => rfl)
   (Sat.pBytes (List.map encB (putVers [] v)) (putVers [] v) (by kernel_rfl) rfl (Sat.pNodeF false (by kernel_rfl) rfl (Sat.pNodeF false (by kernel_rfl) rfl
   (Sat.pIfEN (putVers [] v = List.take (↑(putVers [] v).length : Int).toNat (putVers [] v ++ rest)) (putVers [] v = List.take (putVers [] v).length (putVers [] v ++ rest)) (by kernel_rfl) (by simp only [Int.toNat_natCast])
   (fun _h9 =>
   (Sat.pRet (Res.mk (AV.tuple [AV.agg [AV.int IntKind.i64 (0 : Int), AV.int IntKind.i64 (0 : Int), AV.int IntKind.i64 (0 : Int), AV.int IntKind.i64 (0 : Int), AV.bool Bool.false, AV.tree [], AV.str [], AV.str []], AV.int IntKind.i64 (0 : Int), AV.bool Bool.false]) [] []) (by kernel_rfl) (by (clear c1; simp_all))))
   (fun _h9 =>
   (Sat.pRet (Res.mk (AV.tuple [AV.agg [AV.int IntKind.i64 v.Item, AV.int IntKind.i64 v.S.L, AV.int IntKind.i64 v.S.R, AV.int IntKind.i64 v.S.N, AV.bool v.Dead, AV.tree (List.map encAttr v.Attrs), AV.str v.Tag, AV.str v.Body], AV.int IntKind.i64 (↑(putVers [] v).length : Int), AV.bool Bool.true]) [] []) (by kernel_rfl) rfl))))))))))))))
   (fun _h8 => False.elim (by omega))))))))))))
theorem c18a (s : List UInt8) (hs : s ∈ whats) : X.call 18 [.iface 67 (.agg [.iface 51 (.agg [.str s])]), .iface 53 (.ref (.inc 0) 0 0)] [.box (.agg [.str []]) true] ⟨.bool true, [.box (.agg [.str s]) true], []⟩ := by
  simp only [whats, List.mem_cons, List.not_mem_nil, or_false] at hs
  rcases hs with rfl | rfl | rfl | rfl | rfl | rfl | rfl | rfl | rfl | rfl | rfl <;> exact ev_ok envOk 1000 _ _ _ _ (by kernel_rfl)
theorem take_no (b : List UInt8) (hb : b.length ≤ 10000) (hno : ∀ v rest, v.may = true → b ≠ putVers [] v ++ rest) : X.call 8 [.tree (b.map encB)] [] ⟨.tuple [encVersion Version.zero, .int .i64 0, .bool false], [], []⟩ := by
  obtain ⟨⟨v, k, s⟩, c1, hs, hk⟩ := version_no b hb hno
  simp only at c1 hs hk
  rw [show encErr (some s) = .iface 67 (.agg [.iface 51 (.agg [.str s])]) from rfl] at c1
  refine spec_of ok Go.Proofs.Tryz.func8 ok8 ?_
  refine (Sat.pCallE 17 ([AV.ref (Site.inc (0 : Nat)) (0 : Nat) (0 : Nat)]) ([Blk.box (AV.agg [AV.tree (List.map encB b), AV.int IntKind.i64 (0 : Int), AV.nili]) Bool.true]) (by kernel_rfl) rfl rfl (@c1)
   (Sat.pCallE 18 ([AV.iface (67 : TypeId) (AV.agg [AV.iface (51 : TypeId) (AV.agg [AV.str s])]), AV.iface (53 : Nat) (AV.ref (Site.inc (0 : Nat)) (0 : Nat) (0 : Nat))]) ([Blk.box (AV.agg [AV.str []]) Bool.true]) (by kernel_rfl) rfl rfl (@Go.Ab.Tryz.c18a (s) (by assumption))
   (Sat.pNodeT true (by kernel_rfl) rfl (Sat.pNodeT true (by kernel_rfl) rfl (Sat.pNodeT true (by kernel_rfl) rfl (Sat.pNodeT true (by kernel_rfl) rfl (Sat.pNodeT true (by kernel_rfl) rfl
   (Sat.pNodeT true (by kernel_rfl) rfl (Sat.pNodeT true (by kernel_rfl) rfl (Sat.pNodeT true (by kernel_rfl) rfl (Sat.pNodeT true (by kernel_rfl) rfl (Sat.pNodeT true (by kernel_rfl) rfl
   (Sat.pNodeT true (by kernel_rfl) rfl (Sat.pNodeT true (by kernel_rfl) rfl (Sat.pNodeT true (by kernel_rfl) rfl
   (Sat.pRet (Res.mk (AV.tuple [AV.agg [AV.int IntKind.i64 (0 : Int), AV.int IntKind.i64 (0 : Int), AV.int IntKind.i64 (0 : Int), AV.int IntKind.i64 (0 : Int), AV.bool Bool.false, AV.tree [], AV.str [], AV.str []], AV.int IntKind.i64 (0 : Int), AV.bool Bool.false]) [] []) (by kernel_rfl) rfl))))))))))))))))
theorem cut_no {v : Version} (h : v.may = true) {c : Nat} (hc : c < (putVers [] v).length) : ∀ w rest, w.may = true → (putVers [] v).take c ≠ putVers [] w ++ rest := fun w rest hw e => by
  have h1 := List.take_append_drop c (putVers [] v)
  rw [e, List.append_assoc] at h1
  obtain ⟨rfl, h2⟩ := vers_inj (x := rest ++ (putVers [] v).drop c) (y := []) hw h (by rw [h1]; simp)
  have h3 := congrArg List.length e
  simp only [List.length_take, List.length_append] at h3
  omega
theorem c4 : X.call 4 [] [] ⟨.bool true, [], []⟩ := evT_ok envOk (by kernel_rfl)
end Go.Ab.Tryz
