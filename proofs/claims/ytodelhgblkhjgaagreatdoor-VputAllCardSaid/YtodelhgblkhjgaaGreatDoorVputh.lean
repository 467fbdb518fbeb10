/- Package vput: its reader's numbers and texts. -/
import Derived.Test.YtodelhgblkhjgaaGreatDoorVputg
namespace Go.Ab.Tryz
open Go
set_option maxRecDepth 100000
set_option maxHeartbeats 4000000
/-- Why a reader reads no more. -/
def encErr : Option (List UInt8) → AV
  | none => .nili
  | some s => .iface 67 (.agg [.iface 51 (.agg [.str s])])
theorem isNum_yes {b : List UInt8} {v n : Nat} {ok : Bool} (h : IsNum b v n ok) {z : Nat} {rest : List UInt8} (hz : z ≤ 1000000000) (e : b = numB z ++ rest) (hn : n ≤ b.length) : ok = true ∧ v = z ∧ n = (numB z).length := by
  cases ok with
  | false => exact absurd e ((h.2 rfl).2.2 z rest hz)
  | true =>
    obtain ⟨h1, h2⟩ := h.1 rfl
    have h3 := List.take_append_drop n b
    have h4 := congrArg List.length h1
    rw [h1, e] at h3
    obtain ⟨h5, h6⟩ := numB_inj _ _ _ _ h3
    rw [List.length_take, Nat.min_eq_left hn] at h4
    exact ⟨rfl, h5, by rw [h4, h5]⟩
theorem isText_yes {b : List UInt8} {s : List UInt8} {n : Nat} {ok : Bool} (h : IsText b s n ok) {z rest : List UInt8} (hz : z.length ≤ 1000) (e : b = textB z ++ rest) (hn : n ≤ b.length) : ok = true ∧ s = z ∧ n = (textB z).length := by
  cases ok with
  | false => exact absurd e ((h.2 rfl).2.2 z rest hz)
  | true =>
    obtain ⟨h1, h2⟩ := h.1 rfl
    have h3 := List.take_append_drop n b
    have h4 := congrArg List.length h1
    rw [h1, e] at h3
    obtain ⟨h5, h6⟩ := textB_inj h3
    rw [List.length_take, Nat.min_eq_left hn] at h4
    exact ⟨rfl, h5, by rw [h4, h5]⟩
theorem num_yes (b : List UInt8) (what : List UInt8) (hb : b.length ≤ 100000) (k : Nat) (n : Int) (h0 : 0 ≤ n) (hn : n ≤ 1000000000) {pre : List UInt8} (e : ∃ post, b = pre ++ (numB n.toNat ++ post)) (hk : k = pre.length) : X.call 28 [.ref (.inc 0) 0 0, .str what] [.box (.agg [.tree (b.map encB), .int .i64 k, .nili]) true] ⟨.int .i64 n, [.box (.agg [.tree (b.map encB), .int .i64 ((k + (numB n.toNat).length : Nat) : Int), .nili]) true], []⟩ := by
  obtain ⟨z, rfl⟩ := Int.eq_ofNat_of_zero_le h0
  obtain ⟨post, e⟩ := e
  have hd : b.drop k = numB z ++ post := by rw [e, hk]; simp
  have hkl : k ≤ b.length := by rw [e, hk]; simp
  obtain ⟨⟨v, m, ok⟩, hc, h1, h2, h3⟩ := takeNum_ex (b.drop k) (by simp; omega)
  simp only at hc h1 h2 h3
  obtain ⟨rfl, rfl, rfl⟩ := isNum_yes h1 (by omega) hd h3
  rw [List.length_drop] at h3
  simp only [Int.toNat_natCast]
  refine spec_of ok Go.Proofs.Tryz.func28 ok28 ?_
  refine (Sat.pNodeF false (by kernel_rfl) rfl (Sat.pEszM (encB) (b) (List.map encB b) (1) (by kernel_rfl) rfl (fun _ => rfl)
   (Sat.pIfE ((0 : Int) ≤ (↑k : Int) ∧ (↑k : Int) ≤ (↑(List.map encB b).length : Int)) ((0 : Nat) ≤ k ∧ k ≤ b.length) (by kernel_rfl) (by simp only [List.length_map, Int.ofNat_le, ciLe]) (fun _h37 =>
   (Sat.pCallE 40 ([AV.tree (List.drop (↑k : Int).toNat (List.map encB b))]) ([]) (by kernel_rfl) (by simp) rfl (@hc) (Sat.pNodeF false (by kernel_rfl) rfl
   (have _w38 : IntKind.i64.wrap ((↑k : Int) + (↑(numB v).length : Int)) = (↑k : Int) + (↑(numB v).length : Int) := wI64 (by omega) (by omega);
   (Sat.pRet (Res.mk (AV.int IntKind.i64 (↑v : Int)) [Blk.box (AV.agg [AV.tree (List.map encB b), AV.int IntKind.i64 (IntKind.i64.wrap ((↑k : Int) + (↑(numB v).length : Int))), AV.nili]) Bool.true] []) (by kernel_rfl) (by (clear hc; simp_all)))))))
   (fun _h37 => False.elim (by omega)))))
theorem num_ex (b : List UInt8) (what : List UInt8) (hb : b.length ≤ 100000) (k : Nat) (hk : k ≤ b.length) (o : Option (List UInt8)) : ∃ p : Nat × Nat × Option (List UInt8), X.call 28 [.ref (.inc 0) 0 0, .str what] [.box (.agg [.tree (b.map encB), .int .i64 k, encErr o]) true] ⟨.int .i64 p.1, [.box (.agg [.tree (b.map encB), .int .i64 p.2.1, encErr p.2.2]) true], []⟩ ∧ (p.2.2 = none → o = none ∧ b.take p.2.1 = b.take k ++ numB p.1) ∧ p.2.1 ≤ b.length ∧ (p.2.2 = o ∨ p.2.2 = some what) ∧ p.1 ≤ 34359738368 ∧ (p.2.2 ≠ none → p.1 = 0) := by
  cases o with
  | some s =>
    refine ⟨(0, k, some s), ?_, by simp, hk, .inl rfl, by simp, fun _ => rfl⟩
    simp only [encErr]
    refine spec_of ok Go.Proofs.Tryz.func28 ok28 ?_
    refine (Sat.pNodeT true (by kernel_rfl) rfl
     (Sat.pRet (Res.mk (AV.int IntKind.i64 (0 : Int)) [Blk.box (AV.agg [AV.tree (List.map encB b), AV.int IntKind.i64 (↑k : Int), AV.iface (67 : TypeId) (AV.agg [AV.iface (51 : TypeId) (AV.agg [AV.str s])])]) Bool.true] []) (by kernel_rfl) rfl))
  | none =>
    obtain ⟨⟨v, m, ok⟩, hc, h1, h2, h3⟩ := takeNum_ex (b.drop k) (by simp; omega)
    simp only at hc h1 h2 h3
    rw [List.length_drop] at h3
    cases ok with
    | false =>
      obtain ⟨rfl, rfl, _⟩ := h1.2 rfl
      refine ⟨(0, k, some what), ?_, by simp, hk, .inr rfl, by simp, fun _ => rfl⟩
      simp only [encErr]
      refine spec_of ok Go.Proofs.Tryz.func28 ok28 ?_
      refine (Sat.pNodeF false (by kernel_rfl) rfl (Sat.pEszM (encB) (b) (List.map encB b) (1) (by kernel_rfl) rfl (fun _ => rfl)
       (Sat.pIfE ((0 : Int) ≤ (↑k : Int) ∧ (↑k : Int) ≤ (↑(List.map encB b).length : Int)) ((0 : Nat) ≤ k ∧ k ≤ b.length) (by kernel_rfl) (by simp only [List.length_map, Int.ofNat_le, ciLe]) (fun _h26 =>
       (Sat.pCallE 40 ([AV.tree (List.drop (↑k : Int).toNat (List.map encB b))]) ([]) (by kernel_rfl) (by simp) rfl (@hc) (Sat.pNodeT true (by kernel_rfl) rfl
       (have _w27 : IntKind.i64.wrap ((↑k : Int) + (0 : Int)) = (↑k : Int) + (0 : Int) := wI64 (by omega) (by omega);
       (Sat.pRet (Res.mk (AV.int IntKind.i64 (0 : Int)) [Blk.box (AV.agg [AV.tree (List.map encB b), AV.int IntKind.i64 (IntKind.i64.wrap ((↑k : Int) + (0 : Int))), AV.iface (67 : Nat) (AV.agg [AV.iface (51 : Nat) (AV.agg [AV.str what])])]) Bool.true] []) (by kernel_rfl) (by (clear hc; simp_all)))))))
       (fun _h26 => False.elim (by omega)))))
    | true =>
      have h4 := (h1.1 rfl).1
      refine ⟨(v, k + m, none), ?_, fun _ => ⟨rfl, by simp only; rw [List.take_add, h4]⟩, by simp only; omega, .inl rfl, h2, fun h => absurd rfl h⟩
      simp only [encErr]
      refine spec_of ok Go.Proofs.Tryz.func28 ok28 ?_
      refine (Sat.pNodeF false (by kernel_rfl) rfl (Sat.pEszM (encB) (b) (List.map encB b) (1) (by kernel_rfl) rfl (fun _ => rfl)
       (Sat.pIfE ((0 : Int) ≤ (↑k : Int) ∧ (↑k : Int) ≤ (↑(List.map encB b).length : Int)) ((0 : Nat) ≤ k ∧ k ≤ b.length) (by kernel_rfl) (by simp only [List.length_map, Int.ofNat_le, ciLe]) (fun _h17 =>
       (Sat.pCallE 40 ([AV.tree (List.drop (↑k : Int).toNat (List.map encB b))]) ([]) (by kernel_rfl) (by simp) rfl (@hc) (Sat.pNodeF false (by kernel_rfl) rfl
       (have _w18 : IntKind.i64.wrap ((↑k : Int) + (↑m : Int)) = (↑k : Int) + (↑m : Int) := wI64 (by omega) (by omega);
       (Sat.pRet (Res.mk (AV.int IntKind.i64 (↑v : Int)) [Blk.box (AV.agg [AV.tree (List.map encB b), AV.int IntKind.i64 (IntKind.i64.wrap ((↑k : Int) + (↑m : Int))), AV.nili]) Bool.true] []) (by kernel_rfl) (by (clear hc; simp_all)))))))
       (fun _h17 => False.elim (by omega)))))
theorem text_yes (b : List UInt8) (what : List UInt8) (hb : b.length ≤ 100000) (k : Nat) (s : List UInt8) (hs : s.length ≤ 1000) {pre : List UInt8} (e : ∃ post, b = pre ++ (textB s ++ post)) (hk : k = pre.length) : X.call 29 [.ref (.inc 0) 0 0, .str what] [.box (.agg [.tree (b.map encB), .int .i64 k, .nili]) true] ⟨.str s, [.box (.agg [.tree (b.map encB), .int .i64 ((k + (textB s).length : Nat) : Int), .nili]) true], []⟩ := by
  obtain ⟨post, e⟩ := e
  have hd : b.drop k = textB s ++ post := by rw [e, hk]; simp
  have hkl : k ≤ b.length := by rw [e, hk]; simp
  obtain ⟨⟨v, m, ok⟩, hc, h1, h2, h3⟩ := takeText_ex (b.drop k) (by simp; omega)
  simp only at hc h1 h2 h3
  obtain ⟨rfl, rfl, rfl⟩ := isText_yes h1 hs hd h3
  rw [List.length_drop] at h3
  refine spec_of ok Go.Proofs.Tryz.func29 ok29 ?_
  refine (Sat.pNodeF false (by kernel_rfl) rfl (Sat.pEszM (encB) (b) (List.map encB b) (1) (by kernel_rfl) rfl (fun _ => rfl)
   (Sat.pIfE ((0 : Int) ≤ (↑k : Int) ∧ (↑k : Int) ≤ (↑(List.map encB b).length : Int)) ((0 : Nat) ≤ k ∧ k ≤ b.length) (by kernel_rfl) (by simp only [List.length_map, Int.ofNat_le, ciLe]) (fun _h32 =>
   (Sat.pCallE 41 ([AV.tree (List.drop (↑k : Int).toNat (List.map encB b))]) ([]) (by kernel_rfl) (by simp) rfl (@hc) (Sat.pNodeF false (by kernel_rfl) rfl
   (have _w33 : IntKind.i64.wrap ((↑k : Int) + (↑(textB v).length : Int)) = (↑k : Int) + (↑(textB v).length : Int) := wI64 (by omega) (by omega);
   (Sat.pRet (Res.mk (AV.str v) [Blk.box (AV.agg [AV.tree (List.map encB b), AV.int IntKind.i64 (IntKind.i64.wrap ((↑k : Int) + (↑(textB v).length : Int))), AV.nili]) Bool.true] []) (by kernel_rfl) (by (clear hc; simp_all)))))))
   (fun _h32 => False.elim (by omega)))))
theorem text_ex (b : List UInt8) (what : List UInt8) (hb : b.length ≤ 100000) (k : Nat) (hk : k ≤ b.length) (o : Option (List UInt8)) : ∃ p : List UInt8 × Nat × Option (List UInt8), X.call 29 [.ref (.inc 0) 0 0, .str what] [.box (.agg [.tree (b.map encB), .int .i64 k, encErr o]) true] ⟨.str p.1, [.box (.agg [.tree (b.map encB), .int .i64 p.2.1, encErr p.2.2]) true], []⟩ ∧ (p.2.2 = none → o = none ∧ b.take p.2.1 = b.take k ++ textB p.1) ∧ p.2.1 ≤ b.length ∧ (p.2.2 = o ∨ p.2.2 = some what) ∧ p.1.length ≤ b.length := by
  cases o with
  | some s =>
    refine ⟨([], k, some s), ?_, by simp, hk, .inl rfl, by simp⟩
    simp only [encErr]
    refine spec_of ok Go.Proofs.Tryz.func29 ok29 ?_
    refine (Sat.pNodeT true (by kernel_rfl) rfl
     (Sat.pRet (Res.mk (AV.str []) [Blk.box (AV.agg [AV.tree (List.map encB b), AV.int IntKind.i64 (↑k : Int), AV.iface (67 : TypeId) (AV.agg [AV.iface (51 : TypeId) (AV.agg [AV.str s])])]) Bool.true] []) (by kernel_rfl) rfl))
  | none =>
    obtain ⟨⟨v, m, ok⟩, hc, h1, h2, h3⟩ := takeText_ex (b.drop k) (by simp; omega)
    simp only at hc h1 h2 h3
    rw [List.length_drop] at h2 h3
    cases ok with
    | false =>
      obtain ⟨rfl, rfl, _⟩ := h1.2 rfl
      refine ⟨([], k, some what), ?_, by simp, hk, .inr rfl, by simp⟩
      simp only [encErr]
      refine spec_of ok Go.Proofs.Tryz.func29 ok29 ?_
      refine (Sat.pNodeF false (by kernel_rfl) rfl (Sat.pEszM (encB) (b) (List.map encB b) (1) (by kernel_rfl) rfl (fun _ => rfl)
       (Sat.pIfE ((0 : Int) ≤ (↑k : Int) ∧ (↑k : Int) ≤ (↑(List.map encB b).length : Int)) ((0 : Nat) ≤ k ∧ k ≤ b.length) (by kernel_rfl) (by simp only [List.length_map, Int.ofNat_le, ciLe]) (fun _h27 =>
       (Sat.pCallE 41 ([AV.tree (List.drop (↑k : Int).toNat (List.map encB b))]) ([]) (by kernel_rfl) (by simp) rfl (@hc) (Sat.pNodeT true (by kernel_rfl) rfl
       (have _w28 : IntKind.i64.wrap ((↑k : Int) + (0 : Int)) = (↑k : Int) + (0 : Int) := wI64 (by omega) (by omega);
       (Sat.pRet (Res.mk (AV.str []) [Blk.box (AV.agg [AV.tree (List.map encB b), AV.int IntKind.i64 (IntKind.i64.wrap ((↑k : Int) + (0 : Int))), AV.iface (67 : Nat) (AV.agg [AV.iface (51 : Nat) (AV.agg [AV.str what])])]) Bool.true] []) (by kernel_rfl) (by (clear hc; simp_all)))))))
       (fun _h27 => False.elim (by omega)))))
    | true =>
      have h4 := (h1.1 rfl).1
      refine ⟨(v, k + m, none), ?_, fun _ => ⟨rfl, by simp only; rw [List.take_add, h4]⟩, by simp only; omega, .inl rfl, by simp only; omega⟩
      simp only [encErr]
      refine spec_of ok Go.Proofs.Tryz.func29 ok29 ?_
      refine (Sat.pNodeF false (by kernel_rfl) rfl (Sat.pEszM (encB) (b) (List.map encB b) (1) (by kernel_rfl) rfl (fun _ => rfl)
       (Sat.pIfE ((0 : Int) ≤ (↑k : Int) ∧ (↑k : Int) ≤ (↑(List.map encB b).length : Int)) ((0 : Nat) ≤ k ∧ k ≤ b.length) (by kernel_rfl) (by simp only [List.length_map, Int.ofNat_le, ciLe]) (fun _h18 =>
       (Sat.pCallE 41 ([AV.tree (List.drop (↑k : Int).toNat (List.map encB b))]) ([]) (by kernel_rfl) (by simp) rfl (@hc) (Sat.pNodeF false (by kernel_rfl) rfl
       (have _w19 : IntKind.i64.wrap ((↑k : Int) + (↑m : Int)) = (↑k : Int) + (↑m : Int) := wI64 (by omega) (by omega);
       (Sat.pRet (Res.mk (AV.str v) [Blk.box (AV.agg [AV.tree (List.map encB b), AV.int IntKind.i64 (IntKind.i64.wrap ((↑k : Int) + (↑m : Int))), AV.nili]) Bool.true] []) (by kernel_rfl) (by (clear hc; simp_all)))))))
       (fun _h18 => False.elim (by omega)))))
end Go.Ab.Tryz
