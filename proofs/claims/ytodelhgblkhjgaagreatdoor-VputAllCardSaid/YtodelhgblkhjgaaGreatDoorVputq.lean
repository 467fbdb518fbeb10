/- VputAll: whatever it is handed, it answers true. -/
import Derived.Test.YtodelhgblkhjgaaGreatDoorVputp
import Derived.Test.YtodelhgblkhjgaaGreatDoorAbArgsV
namespace Go.Ab.Tryz
open Go
set_option maxRecDepth 100000
set_option maxHeartbeats 4000000
theorem c5 (v : Version) : X.call 5 [encVersion v] [] ⟨.bool (decide (v.Attrs.length ≤ 6 ∧ v.Tag.length ≤ 12 ∧ v.Body.length ≤ 30)), [], []⟩ := by
  refine spec_of ok Go.Proofs.Tryz.func5 ok5 ?_
  refine (Sat.pIfE ((↑(List.map encAttr v.Attrs).length : Int) ≤ (6 : Int)) (v.Attrs.length ≤ (6 : Nat)) (by kernel_rfl) (by simp only [List.length_map, icLe]) (fun _h2 =>
   (Sat.pIfET ((↑(List.map encAttr v.Attrs).length : Int) ≤ (6 : Int)) (v.Attrs.length ≤ (6 : Nat)) (by kernel_rfl) (by simp only [List.length_map, icLe]) _h2
   (Sat.pIfET ((↑(List.map encAttr v.Attrs).length : Int) ≤ (6 : Int)) (v.Attrs.length ≤ (6 : Nat)) (by kernel_rfl) (by simp only [List.length_map, icLe]) _h2
   (Sat.pIfET ((↑(List.map encAttr v.Attrs).length : Int) ≤ (6 : Int)) (v.Attrs.length ≤ (6 : Nat)) (by kernel_rfl) (by simp only [List.length_map, icLe]) _h2
   (Sat.pIfET ((↑(List.map encAttr v.Attrs).length : Int) ≤ (6 : Int)) (v.Attrs.length ≤ (6 : Nat)) (by kernel_rfl) (by simp only [List.length_map, icLe]) _h2
   (Sat.pIfE ((↑v.Tag.length : Int) ≤ (12 : Int)) (v.Tag.length ≤ (12 : Nat)) (by kernel_rfl) (by simp only [icLe]) (fun _h3 =>
   (Sat.pIfET ((↑v.Tag.length : Int) ≤ (12 : Int)) (v.Tag.length ≤ (12 : Nat)) (by kernel_rfl) (by simp only [icLe]) _h3
   (Sat.pIfET ((↑v.Tag.length : Int) ≤ (12 : Int)) (v.Tag.length ≤ (12 : Nat)) (by kernel_rfl) (by simp only [icLe]) _h3
   (Sat.pIfET ((↑v.Tag.length : Int) ≤ (12 : Int)) (v.Tag.length ≤ (12 : Nat)) (by kernel_rfl) (by simp only [icLe]) _h3
   (Sat.pIfET ((↑v.Tag.length : Int) ≤ (12 : Int)) (v.Tag.length ≤ (12 : Nat)) (by kernel_rfl) (by simp only [icLe]) _h3
   (Sat.pRet (Res.mk (AV.bool (decide ((↑v.Body.length : Int) ≤ (30 : Int)))) [] []) (by kernel_rfl) (by (simp [*]; omega)))))))) (fun _h3 =>
   (Sat.pIfEF ((↑v.Tag.length : Int) ≤ (12 : Int)) (v.Tag.length ≤ (12 : Nat)) (by kernel_rfl) (by simp only [icLe]) _h3
   (Sat.pIfEF ((↑v.Tag.length : Int) ≤ (12 : Int)) (v.Tag.length ≤ (12 : Nat)) (by kernel_rfl) (by simp only [icLe]) _h3
   (Sat.pIfEF ((↑v.Tag.length : Int) ≤ (12 : Int)) (v.Tag.length ≤ (12 : Nat)) (by kernel_rfl) (by simp only [icLe]) _h3
   (Sat.pIfEF ((↑v.Tag.length : Int) ≤ (12 : Int)) (v.Tag.length ≤ (12 : Nat)) (by kernel_rfl) (by simp only [icLe]) _h3
   (Sat.pRet (Res.mk (AV.bool Bool.false) [] []) (by kernel_rfl) (by (simp [*]; done)))))))))))))) (fun _h2 =>
   (Sat.pIfEF ((↑(List.map encAttr v.Attrs).length : Int) ≤ (6 : Int)) (v.Attrs.length ≤ (6 : Nat)) (by kernel_rfl) (by simp only [List.length_map, icLe]) _h2
   (Sat.pIfEF ((↑(List.map encAttr v.Attrs).length : Int) ≤ (6 : Int)) (v.Attrs.length ≤ (6 : Nat)) (by kernel_rfl) (by simp only [List.length_map, icLe]) _h2
   (Sat.pIfEF ((↑(List.map encAttr v.Attrs).length : Int) ≤ (6 : Int)) (v.Attrs.length ≤ (6 : Nat)) (by kernel_rfl) (by simp only [List.length_map, icLe]) _h2
   (Sat.pIfEF ((↑(List.map encAttr v.Attrs).length : Int) ≤ (6 : Int)) (v.Attrs.length ≤ (6 : Nat)) (by kernel_rfl) (by simp only [List.length_map, icLe]) _h2 (Sat.pNodeF false (by kernel_rfl) rfl
   (Sat.pNodeF false (by kernel_rfl) rfl (Sat.pNodeF false (by kernel_rfl) rfl (Sat.pNodeF false (by kernel_rfl) rfl (Sat.pNodeF false (by kernel_rfl) rfl
   (Sat.pRet (Res.mk (AV.bool Bool.false) [] []) (by kernel_rfl) (by (simp [*]; done))))))))))))))
theorem take_both (b : List UInt8) (hb : b.length ≤ 5000) : ∃ p : Version × Nat × Bool, X.call 8 [.tree (b.map encB)] [] ⟨.tuple [encVersion p.1, .int .i64 p.2.1, .bool p.2.2], [], []⟩ ∧ X.call 9 [.tree (b.map encB)] [] ⟨.tuple [encVersion p.1, .int .i64 p.2.1, .bool p.2.2], [], []⟩ ∧ p.1.Attrs.length ≤ 3 := by
  by_cases h : ∃ v rest, v.may = true ∧ b = putVers [] v ++ rest
  · obtain ⟨v, rest, hv, rfl⟩ := h
    simp only [List.length_append] at hb
    exact ⟨(v, (putVers [] v).length, true), take_yes v hv rest (by omega), takeV_yes v hv rest (by omega), (Version.may_fit hv).al⟩
  · have hno : ∀ v rest, v.may = true → b ≠ putVers [] v ++ rest := fun v rest hv e => h ⟨v, rest, hv, e⟩
    obtain ⟨⟨v, n, o⟩, hc, h1, h2⟩ := takeV_ex b hb
    simp only at hc h1 h2
    cases o with
    | true =>
      obtain ⟨h3, h4⟩ := h1 rfl
      exact absurd (by rw [← h4]; exact (List.take_append_drop n b).symm) (hno v (b.drop n) h3)
    | false =>
      obtain ⟨rfl, rfl⟩ := h2 rfl
      exact ⟨(Version.zero, 0, false), take_no b (by omega) hno, hc, by simp [Version.zero]⟩
theorem c3 (w : Version) (x1 x2 : List UInt8) : X.call 3 [encVersion w, .tree (x1.map encB), .tree (x2.map encB)] [] ⟨.bool true, [], []⟩ := by
  have hv := (Picks.mk x1 0).version_like
  have lv := hv.attrs
  have lt := hv.tag
  have lb := hv.body
  by_cases h : (w.Attrs.length ≤ 6 ∧ w.Tag.length ≤ 12 ∧ w.Body.length ≤ 30) ∧ x2.length ≤ 60
  · obtain ⟨⟨⟨v, n, o⟩, d1, d2, hal⟩, h1, h2, h3⟩ := (⟨take_both x2 (by omega), h.1⟩ : _ ∧ _)
    simp only at d1 d2 hal
    have p1 : X.call 10 [.tree [], encVersion (Picks.mk x1 0).version.1] [] _ := put_any [] (by simp) (Picks.mk x1 0).version.1 (by omega) (by omega) (by omega)
    have p2 : X.call 10 [.tree [.int .u8 7], encVersion w] [] _ := put_any [7] (by simp) w (by omega) (by omega) (by omega)
    have q1 : X.call 11 [.tree [], encVersion (Picks.mk x1 0).version.1] [] _ := putVersion_call [] (Picks.mk x1 0).version.1 (by simp) (by omega) (by omega) (by omega)
    have q2 : X.call 11 [.tree [.int .u8 7], encVersion w] [] _ := putVersion_call [7] w (by simp) (by omega) (by omega) (by omega)
    refine spec_of ok Go.Proofs.Tryz.func3 ok3 ?_
    refine (Sat.pCallE 4 ([]) ([]) (by kernel_rfl) rfl rfl (@Go.Ab.Tryz.c4) (Sat.pNodeF false (by kernel_rfl) rfl
     (Sat.pCallE 5 ([AV.agg [AV.int IntKind.i64 w.Item, AV.int IntKind.i64 w.S.L, AV.int IntKind.i64 w.S.R, AV.int IntKind.i64 w.S.N, AV.bool w.Dead, AV.tree (List.map encAttr w.Attrs), AV.str w.Tag, AV.str w.Body]]) ([]) (by kernel_rfl) rfl rfl (@Go.Ab.Tryz.c5 (w))
     (Sat.pIfN (w.Attrs.length ≤ (6 : Nat) ∧ w.Tag.length ≤ (12 : Nat) ∧ w.Body.length ≤ (30 : Nat)) (by kernel_rfl) (fun _h24 => False.elim (by omega)) (fun _h24 =>
     (Sat.pIfENF (w.Attrs.length ≤ (6 : Nat) ∧ w.Tag.length ≤ (12 : Nat) ∧ w.Body.length ≤ (30 : Nat)) (w.Attrs.length ≤ (6 : Nat) ∧ w.Tag.length ≤ (12 : Nat) ∧ w.Body.length ≤ (30 : Nat)) (by kernel_rfl) Iff.rfl _h24
     (Sat.pIfENF (w.Attrs.length ≤ (6 : Nat) ∧ w.Tag.length ≤ (12 : Nat) ∧ w.Body.length ≤ (30 : Nat)) (w.Attrs.length ≤ (6 : Nat) ∧ w.Tag.length ≤ (12 : Nat) ∧ w.Body.length ≤ (30 : Nat)) (by kernel_rfl) Iff.rfl _h24
     (Sat.pIfENF (w.Attrs.length ≤ (6 : Nat) ∧ w.Tag.length ≤ (12 : Nat) ∧ w.Body.length ≤ (30 : Nat)) (w.Attrs.length ≤ (6 : Nat) ∧ w.Tag.length ≤ (12 : Nat) ∧ w.Body.length ≤ (30 : Nat)) (by kernel_rfl) Iff.rfl _h24
     (Sat.pIfE ((20 : Int) < (↑(List.map encB x1).length : Int)) ((20 : Nat) < x1.length) (by kernel_rfl) (by simp only [List.length_map, ciLt]) (fun _h25 =>
     (Sat.pIfET ((20 : Int) < (↑(List.map encB x1).length : Int)) ((20 : Nat) < x1.length) (by kernel_rfl) (by simp only [List.length_map, ciLt]) _h25
     (Sat.pIfET ((20 : Int) < (↑(List.map encB x1).length : Int)) ((20 : Nat) < x1.length) (by kernel_rfl) (by simp only [List.length_map, ciLt]) _h25
     (Sat.pIfET ((20 : Int) < (↑(List.map encB x1).length : Int)) ((20 : Nat) < x1.length) (by kernel_rfl) (by simp only [List.length_map, ciLt]) _h25 (Sat.pNodeT true (by kernel_rfl) rfl
     (Sat.pRet (Res.mk (AV.bool Bool.true) [] []) (by kernel_rfl) rfl)))))) (fun _h25 =>
     (Sat.pIfEF ((20 : Int) < (↑(List.map encB x1).length : Int)) ((20 : Nat) < x1.length) (by kernel_rfl) (by simp only [List.length_map, ciLt]) _h25
     (Sat.pIfEF ((20 : Int) < (↑(List.map encB x1).length : Int)) ((20 : Nat) < x1.length) (by kernel_rfl) (by simp only [List.length_map, ciLt]) _h25
     (Sat.pIfEF ((20 : Int) < (↑(List.map encB x1).length : Int)) ((20 : Nat) < x1.length) (by kernel_rfl) (by simp only [List.length_map, ciLt]) _h25
     (Sat.pIfE ((60 : Int) < (↑(List.map encB x2).length : Int)) ((60 : Nat) < x2.length) (by kernel_rfl) (by simp only [List.length_map, ciLt]) (fun _h26 => False.elim (by omega)) (fun _h26 =>
     (Sat.pCallE 6 ([AV.tree (List.map encB x1)]) ([]) (by kernel_rfl) rfl rfl (@Go.Ab.Tryz.c6 (x1))
     (Sat.pCallE 7 ([AV.ref (Site.inc (0 : Nat)) (0 : Nat) (0 : Nat)]) ([Blk.box (AV.agg [AV.tree (List.map encB x1), AV.int IntKind.i64 (0 : Int)]) Bool.true]) (by kernel_rfl) rfl rfl (@Go.Ab.Tryz.c7 (Picks.mk x1 (0 : Nat)) (by show x1.length ≤ (100000 : Nat); omega))
     (Sat.pCallE 8 ([AV.tree (List.map encB x2)]) ([]) (by kernel_rfl) rfl rfl (@d1) (Sat.pCallE 9 ([AV.tree (List.map encB x2)]) ([]) (by kernel_rfl) rfl rfl (@d2)
     (Sat.pCallE 10 ([AV.tree [], AV.agg [AV.int IntKind.i64 (Picks.mk x1 (0 : Nat)).version.fst.Item, AV.int IntKind.i64 (Picks.mk x1 (0 : Nat)).version.fst.S.L, AV.int IntKind.i64 (Picks.mk x1 (0 : Nat)).version.fst.S.R, AV.int IntKind.i64 (Picks.mk x1 (0 : Nat)).version.fst.S.N, AV.bool (Picks.mk x1 (0 : Nat)).version.fst.Dead, AV.tree (List.map encAttr (Picks.mk x1 (0 : Nat)).version.fst.Attrs), AV.str (Picks.mk x1 (0 : Nat)).version.fst.Tag, AV.str (Picks.mk x1 (0 : Nat)).version.fst.Body]]) ([]) (by kernel_rfl) rfl rfl (@p1)
     (Sat.pEszM (encB) (putVers [] (Picks.mk x1 (0 : Nat)).version.fst) (List.map encB (putVers [] (Picks.mk x1 (0 : Nat)).version.fst)) (1) (by kernel_rfl) rfl (fun _ => rfl)
     (Sat.pBytes (List.map encB (putVers [] (Picks.mk x1 (0 : Nat)).version.fst)) (putVers [] (Picks.mk x1 (0 : Nat)).version.fst) (by kernel_rfl) rfl
     (Sat.pCallE 11 ([AV.tree [], AV.agg [AV.int IntKind.i64 (Picks.mk x1 (0 : Nat)).version.fst.Item, AV.int IntKind.i64 (Picks.mk x1 (0 : Nat)).version.fst.S.L, AV.int IntKind.i64 (Picks.mk x1 (0 : Nat)).version.fst.S.R, AV.int IntKind.i64 (Picks.mk x1 (0 : Nat)).version.fst.S.N, AV.bool (Picks.mk x1 (0 : Nat)).version.fst.Dead, AV.tree (List.map encAttr (Picks.mk x1 (0 : Nat)).version.fst.Attrs), AV.str (Picks.mk x1 (0 : Nat)).version.fst.Tag, AV.str (Picks.mk x1 (0 : Nat)).version.fst.Body]]) ([]) (by kernel_rfl) rfl rfl (@q1)
     (have _w27 : List.take (putVers [] (Picks.mk x1 (0 : Nat)).version.fst).length (List.map encB (putVers [] (Picks.mk x1 (0 : Nat)).version.fst)) = List.map encB (putVers [] (Picks.mk x1 (0 : Nat)).version.fst) := List.take_of_length_le (by simp);
     (Sat.pBytes (List.take (putVers [] (Picks.mk x1 (0 : Nat)).version.fst).length (List.map encB (putVers [] (Picks.mk x1 (0 : Nat)).version.fst))) (putVers [] (Picks.mk x1 (0 : Nat)).version.fst) (by kernel_rfl) (by simp [encB_fun, List.take_of_length_le])
     (Sat.pIfE (putVers [] (Picks.mk x1 (0 : Nat)).version.fst = putVers [] (Picks.mk x1 (0 : Nat)).version.fst) (True) (by kernel_rfl) (by simp only []) (fun _h28 =>
     (Sat.pIfET (putVers [] (Picks.mk x1 (0 : Nat)).version.fst = putVers [] (Picks.mk x1 (0 : Nat)).version.fst) (True) (by kernel_rfl) (by simp only []) _h28 (Sat.pAmb (by kernel_rfl)
     (Sat.pIfET (putVers [] (Picks.mk x1 (0 : Nat)).version.fst = putVers [] (Picks.mk x1 (0 : Nat)).version.fst) (True) (by kernel_rfl) (by simp only []) _h28 (Sat.pAmb (by kernel_rfl)
     (Sat.pIfET (putVers [] (Picks.mk x1 (0 : Nat)).version.fst = putVers [] (Picks.mk x1 (0 : Nat)).version.fst) (True) (by kernel_rfl) (by simp only []) _h28
     (Sat.pCallE 10 ([AV.tree [AV.int IntKind.u8 (7 : Int)], AV.agg [AV.int IntKind.i64 w.Item, AV.int IntKind.i64 w.S.L, AV.int IntKind.i64 w.S.R, AV.int IntKind.i64 w.S.N, AV.bool w.Dead, AV.tree (List.map encAttr w.Attrs), AV.str w.Tag, AV.str w.Body]]) ([]) (by kernel_rfl) rfl rfl (@p2)
     (Sat.pIfET (putVers [] (Picks.mk x1 (0 : Nat)).version.fst = putVers [] (Picks.mk x1 (0 : Nat)).version.fst) (True) (by kernel_rfl) (by simp only []) _h28
     (Sat.pEszM (encB) (putVers [(7 : UInt8)] w) (List.map encB (putVers [(7 : UInt8)] w)) (1) (by kernel_rfl) rfl (fun _ => rfl)
     (Sat.pBytes (List.map encB (putVers [(7 : UInt8)] w)) (putVers [(7 : UInt8)] w) (by kernel_rfl) rfl
     (Sat.pIfET (putVers [] (Picks.mk x1 (0 : Nat)).version.fst = putVers [] (Picks.mk x1 (0 : Nat)).version.fst) (True) (by kernel_rfl) (by simp only []) _h28
     (Sat.pIfET (putVers [] (Picks.mk x1 (0 : Nat)).version.fst = putVers [] (Picks.mk x1 (0 : Nat)).version.fst) (True) (by kernel_rfl) (by simp only []) _h28
     (Sat.pCallE 11 ([AV.tree [AV.int IntKind.u8 (7 : Int)], AV.agg [AV.int IntKind.i64 w.Item, AV.int IntKind.i64 w.S.L, AV.int IntKind.i64 w.S.R, AV.int IntKind.i64 w.S.N, AV.bool w.Dead, AV.tree (List.map encAttr w.Attrs), AV.str w.Tag, AV.str w.Body]]) ([]) (by kernel_rfl) rfl rfl (@q2)
     (Sat.pIfET (putVers [] (Picks.mk x1 (0 : Nat)).version.fst = putVers [] (Picks.mk x1 (0 : Nat)).version.fst) (True) (by kernel_rfl) (by simp only []) _h28
     (have _w29 : List.take (putVers [(7 : UInt8)] w).length (List.map encB (putVers [(7 : UInt8)] w)) = List.map encB (putVers [(7 : UInt8)] w) := List.take_of_length_le (by simp);
     (Sat.pBytes (List.take (putVers [(7 : UInt8)] w).length (List.map encB (putVers [(7 : UInt8)] w))) (putVers [(7 : UInt8)] w) (by kernel_rfl) (by simp [encB_fun, List.take_of_length_le])
     (Sat.pIfET (putVers [] (Picks.mk x1 (0 : Nat)).version.fst = putVers [] (Picks.mk x1 (0 : Nat)).version.fst) (True) (by kernel_rfl) (by simp only []) _h28
     (Sat.pIfET (putVers [] (Picks.mk x1 (0 : Nat)).version.fst = putVers [] (Picks.mk x1 (0 : Nat)).version.fst) (True) (by kernel_rfl) (by simp only []) _h28
     (Sat.pIfET (putVers [(7 : UInt8)] w = putVers [(7 : UInt8)] w) (True) (by kernel_rfl) (by simp only []) _h28
     (Sat.pIfET (putVers [(7 : UInt8)] w = putVers [(7 : UInt8)] w) (True) (by kernel_rfl) (by simp only []) _h28
     (Sat.pIfET (putVers [(7 : UInt8)] w = putVers [(7 : UInt8)] w) (True) (by kernel_rfl) (by simp only []) _h28
     (Sat.pIfET (putVers [(7 : UInt8)] w = putVers [(7 : UInt8)] w) (True) (by kernel_rfl) (by simp only []) _h28 (Sat.pIfET ((↑n : Int) = (↑n : Int)) (True) (by kernel_rfl) (by simp only []) _h28
     (Sat.pIfET ((↑n : Int) = (↑n : Int)) (True) (by kernel_rfl) (by simp only []) _h28 (Sat.pIfET ((↑n : Int) = (↑n : Int)) (True) (by kernel_rfl) (by simp only []) _h28
     (Sat.pIfET ((↑n : Int) = (↑n : Int)) (True) (by kernel_rfl) (by simp only []) _h28 (Sat.pIfET (o = o) (True) (by kernel_rfl) (by simp only []) _h28
     (Sat.pIfET (o = o) (True) (by kernel_rfl) (by simp only []) _h28 (Sat.pIfET (o = o) (True) (by kernel_rfl) (by simp only []) _h28
     (Sat.pCallE 12 ([AV.agg [AV.int IntKind.i64 v.Item, AV.int IntKind.i64 v.S.L, AV.int IntKind.i64 v.S.R, AV.int IntKind.i64 v.S.N, AV.bool v.Dead, AV.tree (List.map encAttr v.Attrs), AV.str v.Tag, AV.str v.Body], AV.agg [AV.int IntKind.i64 v.Item, AV.int IntKind.i64 v.S.L, AV.int IntKind.i64 v.S.R, AV.int IntKind.i64 v.S.N, AV.bool v.Dead, AV.tree (List.map encAttr v.Attrs), AV.str v.Tag, AV.str v.Body]]) ([]) (by kernel_rfl) rfl rfl (@Go.Ab.Tryz.c12 (v) (v) (by omega))
     (Sat.pIfET (o = o) (True) (by kernel_rfl) (by simp only []) _h28 (Sat.pRet (Res.mk (AV.bool (decide (v = v))) [] []) (by kernel_rfl) (by (clear d1 d2 p1 p2 q1 q2; simp_all)))))))))))))))))))))))))))))
     (Sat.pIfET (putVers [] (Picks.mk x1 (0 : Nat)).version.fst = putVers [] (Picks.mk x1 (0 : Nat)).version.fst) (True) (by kernel_rfl) (by simp only []) _h28
     (Sat.pIfET (putVers [] (Picks.mk x1 (0 : Nat)).version.fst = putVers [] (Picks.mk x1 (0 : Nat)).version.fst) (True) (by kernel_rfl) (by simp only []) _h28
     (Sat.pCallE 10 ([AV.tree [AV.int IntKind.u8 (7 : Int)], AV.agg [AV.int IntKind.i64 w.Item, AV.int IntKind.i64 w.S.L, AV.int IntKind.i64 w.S.R, AV.int IntKind.i64 w.S.N, AV.bool w.Dead, AV.tree (List.map encAttr w.Attrs), AV.str w.Tag, AV.str w.Body]]) ([]) (by kernel_rfl) rfl rfl (@p2)
     (Sat.pIfET (putVers [] (Picks.mk x1 (0 : Nat)).version.fst = putVers [] (Picks.mk x1 (0 : Nat)).version.fst) (True) (by kernel_rfl) (by simp only []) _h28
     (Sat.pEszM (encB) (putVers [(7 : UInt8)] w) (List.map encB (putVers [(7 : UInt8)] w)) (1) (by kernel_rfl) rfl (fun _ => rfl)
     (Sat.pBytes (List.map encB (putVers [(7 : UInt8)] w)) (putVers [(7 : UInt8)] w) (by kernel_rfl) rfl
     (Sat.pIfET (putVers [] (Picks.mk x1 (0 : Nat)).version.fst = putVers [] (Picks.mk x1 (0 : Nat)).version.fst) (True) (by kernel_rfl) (by simp only []) _h28
     (Sat.pCallE 11 ([AV.tree [AV.int IntKind.u8 (7 : Int)], AV.agg [AV.int IntKind.i64 w.Item, AV.int IntKind.i64 w.S.L, AV.int IntKind.i64 w.S.R, AV.int IntKind.i64 w.S.N, AV.bool w.Dead, AV.tree (List.map encAttr w.Attrs), AV.str w.Tag, AV.str w.Body]]) ([]) (by kernel_rfl) rfl rfl (@q2)
     (Sat.pIfET (putVers [] (Picks.mk x1 (0 : Nat)).version.fst = putVers [] (Picks.mk x1 (0 : Nat)).version.fst) (True) (by kernel_rfl) (by simp only []) _h28
     (have _w30 : List.take (putVers [(7 : UInt8)] w).length (List.map encB (putVers [(7 : UInt8)] w)) = List.map encB (putVers [(7 : UInt8)] w) := List.take_of_length_le (by simp);
     (Sat.pBytes (List.take (putVers [(7 : UInt8)] w).length (List.map encB (putVers [(7 : UInt8)] w))) (putVers [(7 : UInt8)] w) (by kernel_rfl) (by simp [encB_fun, List.take_of_length_le])
     (Sat.pIfET (putVers [] (Picks.mk x1 (0 : Nat)).version.fst = putVers [] (Picks.mk x1 (0 : Nat)).version.fst) (True) (by kernel_rfl) (by simp only []) _h28
     (Sat.pIfET (putVers [] (Picks.mk x1 (0 : Nat)).version.fst = putVers [] (Picks.mk x1 (0 : Nat)).version.fst) (True) (by kernel_rfl) (by simp only []) _h28
     (Sat.pIfET (putVers [(7 : UInt8)] w = putVers [(7 : UInt8)] w) (True) (by kernel_rfl) (by simp only []) _h28
     (Sat.pIfET (putVers [(7 : UInt8)] w = putVers [(7 : UInt8)] w) (True) (by kernel_rfl) (by simp only []) _h28
     (Sat.pIfET (putVers [(7 : UInt8)] w = putVers [(7 : UInt8)] w) (True) (by kernel_rfl) (by simp only []) _h28
     (Sat.pIfET (putVers [(7 : UInt8)] w = putVers [(7 : UInt8)] w) (True) (by kernel_rfl) (by simp only []) _h28 (Sat.pIfET ((↑n : Int) = (↑n : Int)) (True) (by kernel_rfl) (by simp only []) _h28
     (Sat.pIfET ((↑n : Int) = (↑n : Int)) (True) (by kernel_rfl) (by simp only []) _h28 (Sat.pIfET ((↑n : Int) = (↑n : Int)) (True) (by kernel_rfl) (by simp only []) _h28
     (Sat.pIfET ((↑n : Int) = (↑n : Int)) (True) (by kernel_rfl) (by simp only []) _h28 (Sat.pIfET (o = o) (True) (by kernel_rfl) (by simp only []) _h28
     (Sat.pIfET (o = o) (True) (by kernel_rfl) (by simp only []) _h28 (Sat.pIfET (o = o) (True) (by kernel_rfl) (by simp only []) _h28
     (Sat.pCallE 12 ([AV.agg [AV.int IntKind.i64 v.Item, AV.int IntKind.i64 v.S.L, AV.int IntKind.i64 v.S.R, AV.int IntKind.i64 v.S.N, AV.bool v.Dead, AV.tree (List.map encAttr v.Attrs), AV.str v.Tag, AV.str v.Body], AV.agg [AV.int IntKind.i64 v.Item, AV.int IntKind.i64 v.S.L, AV.int IntKind.i64 v.S.R, AV.int IntKind.i64 v.S.N, AV.bool v.Dead, AV.tree (List.map encAttr v.Attrs), AV.str v.Tag, AV.str v.Body]]) ([]) (by kernel_rfl) rfl rfl (@Go.Ab.Tryz.c12 (v) (v) (by omega))
     (Sat.pIfET (o = o) (True) (by kernel_rfl) (by simp only []) _h28
     (Sat.pRet (Res.mk (AV.bool (decide (v = v))) [] []) (by kernel_rfl) (by (clear d1 d2 p1 p2 q1 q2; simp_all)))))))))))))))))))))))))))))))
     (Sat.pIfET (putVers [] (Picks.mk x1 (0 : Nat)).version.fst = putVers [] (Picks.mk x1 (0 : Nat)).version.fst) (True) (by kernel_rfl) (by simp only []) _h28
     (Sat.pIfET (putVers [] (Picks.mk x1 (0 : Nat)).version.fst = putVers [] (Picks.mk x1 (0 : Nat)).version.fst) (True) (by kernel_rfl) (by simp only []) _h28
     (Sat.pIfET (putVers [] (Picks.mk x1 (0 : Nat)).version.fst = putVers [] (Picks.mk x1 (0 : Nat)).version.fst) (True) (by kernel_rfl) (by simp only []) _h28
     (Sat.pCallE 10 ([AV.tree [AV.int IntKind.u8 (7 : Int)], AV.agg [AV.int IntKind.i64 w.Item, AV.int IntKind.i64 w.S.L, AV.int IntKind.i64 w.S.R, AV.int IntKind.i64 w.S.N, AV.bool w.Dead, AV.tree (List.map encAttr w.Attrs), AV.str w.Tag, AV.str w.Body]]) ([]) (by kernel_rfl) rfl rfl (@p2)
     (Sat.pIfET (putVers [] (Picks.mk x1 (0 : Nat)).version.fst = putVers [] (Picks.mk x1 (0 : Nat)).version.fst) (True) (by kernel_rfl) (by simp only []) _h28
     (Sat.pEszM (encB) (putVers [(7 : UInt8)] w) (List.map encB (putVers [(7 : UInt8)] w)) (1) (by kernel_rfl) rfl (fun _ => rfl)
     (Sat.pBytes (List.map encB (putVers [(7 : UInt8)] w)) (putVers [(7 : UInt8)] w) (by kernel_rfl) rfl
     (Sat.pIfET (putVers [] (Picks.mk x1 (0 : Nat)).version.fst = putVers [] (Picks.mk x1 (0 : Nat)).version.fst) (True) (by kernel_rfl) (by simp only []) _h28
     (Sat.pCallE 11 ([AV.tree [AV.int IntKind.u8 (7 : Int)], AV.agg [AV.int IntKind.i64 w.Item, AV.int IntKind.i64 w.S.L, AV.int IntKind.i64 w.S.R, AV.int IntKind.i64 w.S.N, AV.bool w.Dead, AV.tree (List.map encAttr w.Attrs), AV.str w.Tag, AV.str w.Body]]) ([]) (by kernel_rfl) rfl rfl (@q2)
     (Sat.pIfET (putVers [] (Picks.mk x1 (0 : Nat)).version.fst = putVers [] (Picks.mk x1 (0 : Nat)).version.fst) (True) (by kernel_rfl) (by simp only []) _h28
     (have _w31 : List.take (putVers [(7 : UInt8)] w).length (List.map encB (putVers [(7 : UInt8)] w)) = List.map encB (putVers [(7 : UInt8)] w) := List.take_of_length_le (by simp);
     (Sat.pBytes (List.take (putVers [(7 : UInt8)] w).length (List.map encB (putVers [(7 : UInt8)] w))) (putVers [(7 : UInt8)] w) (by kernel_rfl) (by simp [encB_fun, List.take_of_length_le])
     (Sat.pIfET (putVers [] (Picks.mk x1 (0 : Nat)).version.fst = putVers [] (Picks.mk x1 (0 : Nat)).version.fst) (True) (by kernel_rfl) (by simp only []) _h28
     (Sat.pIfET (putVers [] (Picks.mk x1 (0 : Nat)).version.fst = putVers [] (Picks.mk x1 (0 : Nat)).version.fst) (True) (by kernel_rfl) (by simp only []) _h28
     (Sat.pIfET (putVers [(7 : UInt8)] w = putVers [(7 : UInt8)] w) (True) (by kernel_rfl) (by simp only []) _h28
     (Sat.pIfET (putVers [(7 : UInt8)] w = putVers [(7 : UInt8)] w) (True) (by kernel_rfl) (by simp only []) _h28
     (Sat.pIfET (putVers [(7 : UInt8)] w = putVers [(7 : UInt8)] w) (True) (by kernel_rfl) (by simp only []) _h28
     (Sat.pIfET (putVers [(7 : UInt8)] w = putVers [(7 : UInt8)] w) (True) (by kernel_rfl) (by simp only []) _h28 (Sat.pIfET ((↑n : Int) = (↑n : Int)) (True) (by kernel_rfl) (by simp only []) _h28
     (Sat.pIfET ((↑n : Int) = (↑n : Int)) (True) (by kernel_rfl) (by simp only []) _h28 (Sat.pIfET ((↑n : Int) = (↑n : Int)) (True) (by kernel_rfl) (by simp only []) _h28
     (Sat.pIfET ((↑n : Int) = (↑n : Int)) (True) (by kernel_rfl) (by simp only []) _h28 (Sat.pIfET (o = o) (True) (by kernel_rfl) (by simp only []) _h28
     (Sat.pIfET (o = o) (True) (by kernel_rfl) (by simp only []) _h28 (Sat.pIfET (o = o) (True) (by kernel_rfl) (by simp only []) _h28
     (Sat.pCallE 12 ([AV.agg [AV.int IntKind.i64 v.Item, AV.int IntKind.i64 v.S.L, AV.int IntKind.i64 v.S.R, AV.int IntKind.i64 v.S.N, AV.bool v.Dead, AV.tree (List.map encAttr v.Attrs), AV.str v.Tag, AV.str v.Body], AV.agg [AV.int IntKind.i64 v.Item, AV.int IntKind.i64 v.S.L, AV.int IntKind.i64 v.S.R, AV.int IntKind.i64 v.S.N, AV.bool v.Dead, AV.tree (List.map encAttr v.Attrs), AV.str v.Tag, AV.str v.Body]]) ([]) (by kernel_rfl) rfl rfl (@Go.Ab.Tryz.c12 (v) (v) (by omega))
     (Sat.pIfET (o = o) (True) (by kernel_rfl) (by simp only []) _h28
     (Sat.pRet (Res.mk (AV.bool (decide (v = v))) [] []) (by kernel_rfl) (by (clear d1 d2 p1 p2 q1 q2; simp_all))))))))))))))))))))))))))))))))) (fun _h28 => (_h28 trivial).elim)))))))))))))))))))))))))))
  · refine spec_of ok Go.Proofs.Tryz.func3 ok3 ?_
    refine (Sat.pCallE 4 ([]) ([]) (by kernel_rfl) rfl rfl (@Go.Ab.Tryz.c4) (Sat.pNodeF false (by kernel_rfl) rfl
     (Sat.pCallE 5 ([AV.agg [AV.int IntKind.i64 w.Item, AV.int IntKind.i64 w.S.L, AV.int IntKind.i64 w.S.R, AV.int IntKind.i64 w.S.N, AV.bool w.Dead, AV.tree (List.map encAttr w.Attrs), AV.str w.Tag, AV.str w.Body]]) ([]) (by kernel_rfl) rfl rfl (@Go.Ab.Tryz.c5 (w))
     (Sat.pIfN (w.Attrs.length ≤ (6 : Nat) ∧ w.Tag.length ≤ (12 : Nat) ∧ w.Body.length ≤ (30 : Nat)) (by kernel_rfl) (fun _h9 =>
     (Sat.pIfENT (w.Attrs.length ≤ (6 : Nat) ∧ w.Tag.length ≤ (12 : Nat) ∧ w.Body.length ≤ (30 : Nat)) (w.Attrs.length ≤ (6 : Nat) ∧ w.Tag.length ≤ (12 : Nat) ∧ w.Body.length ≤ (30 : Nat)) (by kernel_rfl) Iff.rfl _h9
     (Sat.pIfENT (w.Attrs.length ≤ (6 : Nat) ∧ w.Tag.length ≤ (12 : Nat) ∧ w.Body.length ≤ (30 : Nat)) (w.Attrs.length ≤ (6 : Nat) ∧ w.Tag.length ≤ (12 : Nat) ∧ w.Body.length ≤ (30 : Nat)) (by kernel_rfl) Iff.rfl _h9
     (Sat.pIfENT (w.Attrs.length ≤ (6 : Nat) ∧ w.Tag.length ≤ (12 : Nat) ∧ w.Body.length ≤ (30 : Nat)) (w.Attrs.length ≤ (6 : Nat) ∧ w.Tag.length ≤ (12 : Nat) ∧ w.Body.length ≤ (30 : Nat)) (by kernel_rfl) Iff.rfl _h9
     (Sat.pNodeT true (by kernel_rfl) rfl (Sat.pNodeT true (by kernel_rfl) rfl (Sat.pNodeT true (by kernel_rfl) rfl (Sat.pNodeT true (by kernel_rfl) rfl (Sat.pNodeT true (by kernel_rfl) rfl
     (Sat.pRet (Res.mk (AV.bool Bool.true) [] []) (by kernel_rfl) rfl)))))))))) (fun _h9 =>
     (Sat.pIfENF (w.Attrs.length ≤ (6 : Nat) ∧ w.Tag.length ≤ (12 : Nat) ∧ w.Body.length ≤ (30 : Nat)) (w.Attrs.length ≤ (6 : Nat) ∧ w.Tag.length ≤ (12 : Nat) ∧ w.Body.length ≤ (30 : Nat)) (by kernel_rfl) Iff.rfl _h9
     (Sat.pIfENF (w.Attrs.length ≤ (6 : Nat) ∧ w.Tag.length ≤ (12 : Nat) ∧ w.Body.length ≤ (30 : Nat)) (w.Attrs.length ≤ (6 : Nat) ∧ w.Tag.length ≤ (12 : Nat) ∧ w.Body.length ≤ (30 : Nat)) (by kernel_rfl) Iff.rfl _h9
     (Sat.pIfENF (w.Attrs.length ≤ (6 : Nat) ∧ w.Tag.length ≤ (12 : Nat) ∧ w.Body.length ≤ (30 : Nat)) (w.Attrs.length ≤ (6 : Nat) ∧ w.Tag.length ≤ (12 : Nat) ∧ w.Body.length ≤ (30 : Nat)) (by kernel_rfl) Iff.rfl _h9
     (Sat.pIfE ((20 : Int) < (↑(List.map encB x1).length : Int)) ((20 : Nat) < x1.length) (by kernel_rfl) (by simp only [List.length_map, ciLt]) (fun _h10 =>
     (Sat.pIfET ((20 : Int) < (↑(List.map encB x1).length : Int)) ((20 : Nat) < x1.length) (by kernel_rfl) (by simp only [List.length_map, ciLt]) _h10
     (Sat.pIfET ((20 : Int) < (↑(List.map encB x1).length : Int)) ((20 : Nat) < x1.length) (by kernel_rfl) (by simp only [List.length_map, ciLt]) _h10
     (Sat.pIfET ((20 : Int) < (↑(List.map encB x1).length : Int)) ((20 : Nat) < x1.length) (by kernel_rfl) (by simp only [List.length_map, ciLt]) _h10 (Sat.pNodeT true (by kernel_rfl) rfl
     (Sat.pRet (Res.mk (AV.bool Bool.true) [] []) (by kernel_rfl) rfl)))))) (fun _h10 =>
     (Sat.pIfEF ((20 : Int) < (↑(List.map encB x1).length : Int)) ((20 : Nat) < x1.length) (by kernel_rfl) (by simp only [List.length_map, ciLt]) _h10
     (Sat.pIfEF ((20 : Int) < (↑(List.map encB x1).length : Int)) ((20 : Nat) < x1.length) (by kernel_rfl) (by simp only [List.length_map, ciLt]) _h10
     (Sat.pIfEF ((20 : Int) < (↑(List.map encB x1).length : Int)) ((20 : Nat) < x1.length) (by kernel_rfl) (by simp only [List.length_map, ciLt]) _h10
     (Sat.pIfE ((60 : Int) < (↑(List.map encB x2).length : Int)) ((60 : Nat) < x2.length) (by kernel_rfl) (by simp only [List.length_map, ciLt]) (fun _h11 =>
     (Sat.pRet (Res.mk (AV.bool Bool.true) [] []) (by kernel_rfl) rfl)) (fun _h11 => False.elim (by omega))))))))))))))))
theorem law_VputAll (x0 : Version) (x1 x2 : List UInt8) (_h0 : okVersion x0) (_h1 : (∀ x ∈ x1, True) ∧ x1.length ≤ maxLen) (_h2 : (∀ x ∈ x2, True) ∧ x2.length ≤ maxLen) : X.call 3 [encVersion x0, .tree (x1.map encB), .tree (x2.map encB)] [] ⟨.bool true, [], []⟩ := c3 x0 x1 x2
end Go.Ab.Tryz
