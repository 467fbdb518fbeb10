/- Package bits: a number, a text that bytes begin with. -/
import Derived.Test.YtodelhgblkhjgaaGreatDoorVputd
namespace Go.Ab.Tryz
open Go
set_option maxRecDepth 100000
set_option maxHeartbeats 4000000
/-- Bytes begin with a number's, and so many these are; or with none's. -/
def IsNum (b : List UInt8) (v n : Nat) (ok : Bool) : Prop := (ok = true → b.take n = numB v ∧ 0 < n) ∧ (ok = false → v = 0 ∧ n = 0 ∧ ∀ v rest, v ≤ 1000000000 → b ≠ numB v ++ rest)
def IsText (b : List UInt8) (s : List UInt8) (n : Nat) (ok : Bool) : Prop := (ok = true → b.take n = textB s ∧ 0 < n) ∧ (ok = false → s = [] ∧ n = 0 ∧ ∀ s rest, s.length ≤ 1000 → b ≠ textB s ++ rest)
theorem takeNum_ex (b : List UInt8) (hb : b.length ≤ 100000) : ∃ p : Nat × Nat × Bool, X.call 40 [.tree (b.map encB)] [] ⟨.tuple [.int .i64 p.1, .int .i64 p.2.1, .bool p.2.2], [], []⟩ ∧ IsNum b p.1 p.2.1 p.2.2 ∧ p.1 ≤ 34359738368 ∧ p.2.1 ≤ b.length := by
  obtain ⟨⟨v, n, o⟩, hc, h1, h2, h3, h4⟩ := take_ex b hb
  simp only at hc h1 h2 h3 h4
  cases o with
  | ok =>
    have e : IsNum b v n true := ⟨fun _ => ⟨(h1 rfl).1, (h1 rfl).2.1⟩, fun h => by cases h⟩
    refine ⟨(v, n, true), ?_, e, h3, h4⟩
    simp only [encNE] at hc
    refine spec_of ok Go.Proofs.Tryz.func40 ok40 ?_
    refine (Sat.pCallE 48 ([AV.tree (List.map encB b)]) ([]) (by kernel_rfl) rfl rfl (@hc)
     (Sat.pCallE 49 ([AV.nili, AV.iface (115 : Nat) (AV.agg [])]) ([]) (by kernel_rfl) rfl rfl (ev_ok envOk 1000 (49) ([AV.nili, AV.iface (115 : Nat) (AV.agg [])]) ([]) (Res.mk (AV.bool Bool.false) [] []) (by kernel_rfl))
     (Sat.pNodeT true (by kernel_rfl) rfl (Sat.pNodeT true (by kernel_rfl) rfl (Sat.pNodeT true (by kernel_rfl) rfl (Sat.pNodeT true (by kernel_rfl) rfl
     (Sat.pCallE 49 ([AV.nili, AV.iface (116 : Nat) (AV.agg [])]) ([]) (by kernel_rfl) rfl rfl (ev_ok envOk 1000 (49) ([AV.nili, AV.iface (116 : Nat) (AV.agg [])]) ([]) (Res.mk (AV.bool Bool.false) [] []) (by kernel_rfl))
     (Sat.pNodeT true (by kernel_rfl) rfl (Sat.pNodeT true (by kernel_rfl) rfl
     (Sat.pRet (Res.mk (AV.tuple [AV.int IntKind.i64 (↑v : Int), AV.int IntKind.i64 (↑n : Int), AV.bool !Bool.false]) [] []) (by kernel_rfl) rfl))))))))))
  | short =>
    obtain ⟨h5, h6, h7⟩ := h2 (by simp)
    have e : IsNum b v n false := ⟨fun h => (by cases h), fun _ => ⟨h5, h6, h7⟩⟩
    refine ⟨(v, n, false), ?_, e, h3, h4⟩
    simp only [encNE] at hc
    refine spec_of ok Go.Proofs.Tryz.func40 ok40 ?_
    refine (Sat.pCallE 48 ([AV.tree (List.map encB b)]) ([]) (by kernel_rfl) rfl rfl (@hc)
     (Sat.pCallE 49 ([AV.iface (121 : TypeId) (AV.agg [AV.iface (115 : TypeId) (AV.agg [])]), AV.iface (115 : Nat) (AV.agg [])]) ([]) (by kernel_rfl) rfl rfl (ev_ok envOk 1000 (49) ([AV.iface (121 : TypeId) (AV.agg [AV.iface (115 : TypeId) (AV.agg [])]), AV.iface (115 : Nat) (AV.agg [])]) ([]) (Res.mk (AV.bool Bool.true) [] []) (by kernel_rfl))
     (Sat.pNodeF false (by kernel_rfl) rfl (Sat.pNodeF false (by kernel_rfl) rfl (Sat.pNodeF false (by kernel_rfl) rfl (Sat.pNodeF false (by kernel_rfl) rfl (Sat.pNodeF false (by kernel_rfl) rfl
     (Sat.pNodeF false (by kernel_rfl) rfl (Sat.pRet (Res.mk (AV.tuple [AV.int IntKind.i64 (↑v : Int), AV.int IntKind.i64 (↑n : Int), AV.bool Bool.false]) [] []) (by kernel_rfl) rfl)))))))))
  | odd =>
    obtain ⟨h5, h6, h7⟩ := h2 (by simp)
    have e : IsNum b v n false := ⟨fun h => (by cases h), fun _ => ⟨h5, h6, h7⟩⟩
    refine ⟨(v, n, false), ?_, e, h3, h4⟩
    simp only [encNE] at hc
    refine spec_of ok Go.Proofs.Tryz.func40 ok40 ?_
    refine (Sat.pCallE 48 ([AV.tree (List.map encB b)]) ([]) (by kernel_rfl) rfl rfl (@hc)
     (Sat.pCallE 49 ([AV.iface (121 : TypeId) (AV.agg [AV.iface (116 : TypeId) (AV.agg [])]), AV.iface (115 : Nat) (AV.agg [])]) ([]) (by kernel_rfl) rfl rfl (ev_ok envOk 1000 (49) ([AV.iface (121 : TypeId) (AV.agg [AV.iface (116 : TypeId) (AV.agg [])]), AV.iface (115 : Nat) (AV.agg [])]) ([]) (Res.mk (AV.bool Bool.false) [] []) (by kernel_rfl))
     (Sat.pNodeT true (by kernel_rfl) rfl (Sat.pNodeT true (by kernel_rfl) rfl (Sat.pNodeT true (by kernel_rfl) rfl (Sat.pNodeT true (by kernel_rfl) rfl
     (Sat.pCallE 49 ([AV.iface (121 : TypeId) (AV.agg [AV.iface (116 : TypeId) (AV.agg [])]), AV.iface (116 : Nat) (AV.agg [])]) ([]) (by kernel_rfl) rfl rfl (ev_ok envOk 1000 (49) ([AV.iface (121 : TypeId) (AV.agg [AV.iface (116 : TypeId) (AV.agg [])]), AV.iface (116 : Nat) (AV.agg [])]) ([]) (Res.mk (AV.bool Bool.true) [] []) (by kernel_rfl))
     (Sat.pNodeT true (by kernel_rfl) rfl (Sat.pNodeT true (by kernel_rfl) rfl
     (Sat.pRet (Res.mk (AV.tuple [AV.int IntKind.i64 (↑v : Int), AV.int IntKind.i64 (↑n : Int), AV.bool !Bool.true]) [] []) (by kernel_rfl) rfl))))))))))
theorem text_ok {b : List UInt8} {v n : Nat} (h : IsNum b v n true) (hv : v ≤ b.length - n) : IsText b ((b.take (n + v)).drop n) (n + v) true := by
  obtain ⟨h1, h2⟩ := h.1 rfl
  refine ⟨fun _ => ⟨?_, by omega⟩, fun h => by cases h⟩
  have e : ((b.take (n + v)).drop n).length = v := by simp; omega
  unfold textB
  have h3 := List.take_append_drop n (b.take (n + v))
  rw [List.take_take, Nat.min_eq_left (by omega)] at h3
  rw [e, ← h1]; exact h3.symm
theorem text_no1 {b : List UInt8} {v n : Nat} (h : IsNum b v n false) : IsText b [] 0 false :=
  ⟨fun h => (by cases h), fun _ => ⟨rfl, rfl, fun s rest hs => by
    unfold textB; rw [List.append_assoc]; exact (h.2 rfl).2.2 _ _ (by omega)⟩⟩
theorem text_no2 {b : List UInt8} {v n : Nat} (h : IsNum b v n true) (hv : b.length - n < v) : IsText b [] 0 false :=
  ⟨fun h => (by cases h), fun _ => ⟨rfl, rfl, fun s rest hs e => by
    have h1 := (h.1 rfl).1
    have h2 := List.take_append_drop n b
    rw [h1, e] at h2
    unfold textB at h2
    rw [List.append_assoc] at h2
    obtain ⟨h3, h4⟩ := numB_inj _ _ _ _ h2
    have h5 := congrArg List.length h4
    have h6 := congrArg List.length e
    simp only [List.length_append, List.length_drop, textB] at h5 h6
    omega⟩⟩
theorem takeText_ex (b : List UInt8) (hb : b.length ≤ 100000) : ∃ p : List UInt8 × Nat × Bool, X.call 41 [.tree (b.map encB)] [] ⟨.tuple [.str p.1, .int .i64 p.2.1, .bool p.2.2], [], []⟩ ∧ IsText b p.1 p.2.1 p.2.2 ∧ p.1.length ≤ b.length ∧ p.2.1 ≤ b.length := by
  obtain ⟨⟨v, n, o⟩, hc, h1, h2, h3⟩ := takeNum_ex b hb
  simp only at hc h1 h2 h3
  cases o with
  | false =>
    have e := text_no1 h1
    refine ⟨([], 0, false), ?_, e, by simp, by simp⟩
    refine spec_of ok Go.Proofs.Tryz.func41 ok41 ?_
    refine (Sat.pCallE 40 ([AV.tree (List.map encB b)]) ([]) (by kernel_rfl) rfl rfl (@hc) (Sat.pNodeT true (by kernel_rfl) rfl (Sat.pNodeT true (by kernel_rfl) rfl (Sat.pNodeT true (by kernel_rfl) rfl
     (Sat.pNodeT true (by kernel_rfl) rfl (Sat.pNodeT true (by kernel_rfl) rfl (Sat.pNodeT true (by kernel_rfl) rfl (Sat.pNodeT true (by kernel_rfl) rfl (Sat.pNodeT true (by kernel_rfl) rfl
     (Sat.pRet (Res.mk (AV.tuple [AV.str [], AV.int IntKind.i64 (0 : Int), AV.bool Bool.false]) [] []) (by kernel_rfl) rfl))))))))))
  | true =>
    by_cases hv : b.length - n < v
    · have e := text_no2 h1 hv
      refine ⟨([], 0, false), ?_, e, by simp, by simp⟩
      refine spec_of ok Go.Proofs.Tryz.func41 ok41 ?_
      refine (Sat.pCallE 40 ([AV.tree (List.map encB b)]) ([]) (by kernel_rfl) rfl rfl (@hc) (Sat.pNodeF false (by kernel_rfl) rfl (Sat.pNodeF false (by kernel_rfl) rfl (Sat.pNodeF false (by kernel_rfl) rfl
       (Sat.pNodeF false (by kernel_rfl) rfl (Sat.pNodeF false (by kernel_rfl) rfl (Sat.pNodeF false (by kernel_rfl) rfl (Sat.pNodeF false (by kernel_rfl) rfl
       (have _w14 : IntKind.i64.wrap ((↑b.length : Int) - (↑n : Int)) = (↑b.length : Int) - (↑n : Int) := wI64 (by omega) (by omega);
       (Sat.pIfE (IntKind.i64.wrap ((↑(List.map encB b).length : Int) - (↑n : Int)) < (↑v : Int)) ((↑b.length : Int) - (↑n : Int) < (↑v : Int)) (by kernel_rfl) (by simp only [List.length_map, _w14])
       (fun _h15 => (Sat.pRet (Res.mk (AV.tuple [AV.str [], AV.int IntKind.i64 (0 : Int), AV.bool Bool.false]) [] []) (by kernel_rfl) rfl)) (fun _h15 => False.elim (by omega))))))))))))
    · have e := text_ok h1 (by omega)
      refine ⟨((b.take (n + v)).drop n, n + v, true), ?_, e, by simp; omega, by simp only; omega⟩
      refine spec_of ok Go.Proofs.Tryz.func41 ok41 ?_
      refine (Sat.pCallE 40 ([AV.tree (List.map encB b)]) ([]) (by kernel_rfl) rfl rfl (@hc) (Sat.pNodeF false (by kernel_rfl) rfl (Sat.pNodeF false (by kernel_rfl) rfl (Sat.pNodeF false (by kernel_rfl) rfl
       (Sat.pNodeF false (by kernel_rfl) rfl (Sat.pNodeF false (by kernel_rfl) rfl (Sat.pNodeF false (by kernel_rfl) rfl (Sat.pNodeF false (by kernel_rfl) rfl
       (have _w14 : IntKind.i64.wrap ((↑b.length : Int) - (↑n : Int)) = (↑b.length : Int) - (↑n : Int) := wI64 (by omega) (by omega);
       (Sat.pIfE (IntKind.i64.wrap ((↑(List.map encB b).length : Int) - (↑n : Int)) < (↑v : Int)) ((↑b.length : Int) - (↑n : Int) < (↑v : Int)) (by kernel_rfl) (by simp only [List.length_map, _w14])
       (fun _h15 => False.elim (by omega)) (fun _h15 => (Sat.pEszM (encB) (b) (List.map encB b) (1) (by kernel_rfl) rfl (fun _ => rfl)
       (have _w16 : IntKind.i64.wrap ((↑n : Int) + (↑v : Int)) = (↑n : Int) + (↑v : Int) := wI64 (by omega) (by omega);
       (Sat.pIfE ((0 : Int) ≤ IntKind.i64.wrap ((↑n : Int) + (↑v : Int)) ∧ IntKind.i64.wrap ((↑n : Int) + (↑v : Int)) ≤ (↑(List.map encB b).length : Int)) ((0 : Int) ≤ (↑n : Int) + (↑v : Int) ∧ (↑n : Int) + (↑v : Int) ≤ (↑b.length : Int)) (by kernel_rfl) (by simp only [List.length_map, _w16])
       (fun _h17 =>
       (Sat.pIfE ((0 : Int) ≤ (↑n : Int) ∧ (↑n : Int) ≤ (↑(IntKind.i64.wrap ((↑n : Int) + (↑v : Int))).toNat : Int)) ((0 : Nat) ≤ n ∧ n ≤ ((↑n : Int) + (↑v : Int)).toNat) (by kernel_rfl) (by simp only [Int.ofNat_le, ciLe, _w16])
       (fun _h18 =>
       (Sat.pEszM (encB) (List.drop (↑n : Int).toNat (List.take ((↑n : Int) + (↑v : Int)).toNat b)) (List.drop (↑n : Int).toNat (List.take (IntKind.i64.wrap ((↑n : Int) + (↑v : Int))).toNat (List.map encB b))) (1) (by kernel_rfl) (by simp [_w16])
       (fun _ => rfl)
       (Sat.pBytes (List.drop (↑n : Int).toNat (List.take (IntKind.i64.wrap ((↑n : Int) + (↑v : Int))).toNat (List.map encB b))) (List.drop (↑n : Int).toNat (List.take ((↑n : Int) + (↑v : Int)).toNat b)) (by kernel_rfl) (by simp [encB_fun, _w16])
       (Sat.pRet (Res.mk (AV.tuple [AV.str (List.drop (↑n : Int).toNat (List.take ((↑n : Int) + (↑v : Int)).toNat b)), AV.int IntKind.i64 (IntKind.i64.wrap ((↑n : Int) + (↑v : Int))), AV.bool Bool.true]) [] []) (by kernel_rfl) ?_))))
       (fun _h18 => False.elim (by omega)))) (fun _h17 => False.elim (by omega))))))))))))))))
      simp only [_w16, Int.toNat_natCast, show ((n : Int) + (v : Int)).toNat = n + v by omega, Int.natCast_add]
end Go.Ab.Tryz
