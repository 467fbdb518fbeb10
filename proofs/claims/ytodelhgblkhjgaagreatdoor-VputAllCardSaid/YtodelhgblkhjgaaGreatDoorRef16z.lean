/- Package cardamomref16: what is put is taken, as plain Lean. -/
import Derived.Test.YtodelhgblkhjgaaGreatDoorRef16w
import Derived.Test.YtodelhgblkhjgaaGreatDoorVputh
namespace Go.Ab.Tryz
open Go
set_option maxRecDepth 100000
set_option maxHeartbeats 4000000
theorem vstep2 {b : List UInt8} {k : Nat} {x : UInt8} {M : Int} (hx : b[k]? = some x) (hk : k ≤ 4) (hM : M = 2 ^ (7 * k)) : IntKind.i64.wrap ((valB (b.take k) : Int) + IntKind.i64.wrap (IntKind.i64.wrap ((x.toNat : Int).tmod 128) * M)) = (valB (b.take (k + 1)) : Int) := by
  have h2 : 2 ^ (7 * k) ≤ 2 ^ 28 := Nat.pow_le_pow_right (by omega) (by omega)
  have h3 : x.toNat % 128 < 128 := Nat.mod_lt _ (by omega)
  have h4 : 2 ^ (7 * k) * (x.toNat % 128) ≤ 2 ^ 28 * 127 := Nat.mul_le_mul h2 (by omega)
  have h5 := take_most b k (by omega)
  have e1 : (x.toNat : Int).tmod 128 = ((x.toNat % 128 : Nat) : Int) := by rw [Int.tmod_eq_emod_of_nonneg (by omega), Int.natCast_emod]; rfl
  have e2 : ((x.toNat % 128 : Nat) : Int) * M = ((2 ^ (7 * k) * (x.toNat % 128) : Nat) : Int) := by
    rw [hM, Int.natCast_mul, Int.natCast_pow, Int.mul_comm]; rfl
  have e3 : IntKind.i64.wrap ((x.toNat % 128 : Nat) : Int) = ((x.toNat % 128 : Nat) : Int) := wI64 (by omega) (by omega)
  have e4 : IntKind.i64.wrap ((2 ^ (7 * k) * (x.toNat % 128) : Nat) : Int) = ((2 ^ (7 * k) * (x.toNat % 128) : Nat) : Int) := wI64 (by omega) (by omega)
  rw [e1, e3, e2, e4, wI64 (by omega) (by omega), take_valB hx]
  omega
theorem num_yesN {b : List UInt8} {k m : Nat} {x : UInt8} (hx : b[k]? = some x) (h : ∀ y ∈ b.take k, 128 ≤ y.toNat) (hc : x.toNat < 128) (hz : k = 0 ∨ x.toNat ≠ 0) (hm : m = 2 ^ (7 * k)) : IsNum b (valB (b.take k) + x.toNat % 128 * m) (k + 1) true := by
  have e : valB (b.take k) + x.toNat % 128 * m = valB (b.take (k + 1)) := by rw [take_valB hx, hm, Nat.mul_comm]
  rw [e]
  exact ⟨fun _ => ⟨ok_take hx h hc hz, by omega⟩, fun h => by cases h⟩
theorem rTakeNum_ex (b : List UInt8) (hb : b.length ≤ 100000) : ∃ p : Nat × Nat × Bool, X.call 34 [.tree (b.map encB)] [] ⟨.tuple [.int .i64 p.1, .int .i64 p.2.1, .bool p.2.2], [], []⟩ ∧ IsNum b p.1 p.2.1 p.2.2 ∧ p.2.1 ≤ b.length := by
  refine spec_ex ok Go.Proofs.Tryz.func34 ok34 ?_
  refine ?_
  refine SatE.pLoop 3 (St.mk [((0 : Nat), AV.tree (List.map encB b)), ((5 : Nat), AV.int IntKind.i64 (0 : Int)), ((6 : Nat), AV.int IntKind.i64 (1 : Int)), ((7 : Nat), AV.int IntKind.i64 (0 : Int))] []) (by kernel_rfl) (fun (p : Nat × Int) => ⟨[(0, .tree (b.map encB)), (5, .int .i64 (valB (b.take p.1))), (6, .int .i64 p.2), (7, .int .i64 p.1)], []⟩) (fun p => p.1 ≤ 5 ∧ p.2 = 128 ^ p.1 ∧ p.1 ≤ b.length ∧ ∀ x ∈ b.take p.1, 128 ≤ x.toNat) (fun p => 5 - p.1) (0, 1) rfl ?_ ?_
  · exact ⟨by simp, by simp, by simp, by simp⟩
  · rintro ⟨k, y⟩ hI again
    have i1 := hI.1
    have i4 := hI.2.1
    have i2 := hI.2.2.1
    have i3 := hI.2.2.2
    clear hI
    simp only at i1 i2 i3 i4
    have hv := valB_lt (b.take k)
    rw [List.length_take, Nat.min_eq_left i2] at hv
    rcases (by omega : k = 0 ∨ k = 1 ∨ k = 2 ∨ k = 3 ∨ k = 4 ∨ k = 5) with rfl | rfl | rfl | rfl | rfl | rfl
    · simp only [show ((128 : Int) ^ 0) = 1 from rfl] at i4
      subst i4
      refine (SatE.pIfE ((0 : Int) < (↑(List.map encB b).length : Int)) ((0 : Nat) < b.length) (by kernel_rfl) (by simp only [List.length_map, ciLt]) (fun _h12 =>
       (SatE.pIfET ((0 : Int) < (↑(List.map encB b).length : Int)) ((0 : Nat) < b.length) (by kernel_rfl) (by simp only [List.length_map, ciLt]) _h12
       (SatE.pIfET ((0 : Int) < (↑(List.map encB b).length : Int)) ((0 : Nat) < b.length) (by kernel_rfl) (by simp only [List.length_map, ciLt]) _h12 (SatE.pNodeT true (by kernel_rfl) rfl
       (SatE.pNodeT true (by kernel_rfl) rfl (SatE.pElemM (encB) (b) (List.map encB b) ((0 : Nat)) (by kernel_rfl) rfl (by assumption) (fun _x13 _hx14 => (SatE.pNodeT true (by kernel_rfl) rfl
       (SatE.pNodeT true (by kernel_rfl) rfl (SatE.pElemH (encB) (b) (List.map encB b) ((0 : Nat)) ((0 : Nat)) (_x13) (by kernel_rfl) rfl rfl _hx14 (have _u15 : _x13.toNat < (256 : Nat) := UInt8.toNat_lt _;
       (SatE.pIfE ((↑_x13.toNat : Int) < (128 : Int)) (_x13.toNat < (128 : Nat)) (by kernel_rfl) (by simp only [icLt]) (fun _h16 => (SatE.pNodeF false (by kernel_rfl) rfl
       (SatE.pNodeF false (by kernel_rfl) rfl (SatE.pNodeF false (by kernel_rfl) rfl (SatE.pNodeF false (by kernel_rfl) rfl (SatE.pNodeF false (by kernel_rfl) rfl (SatE.pNodeF false (by kernel_rfl) rfl
       (SatE.pNodeF false (by kernel_rfl) rfl (have _w17 : (↑_x13.toNat : Int).tmod (128 : Int) = (↑_x13.toNat : Int) % (128 : Int) := Int.tmod_eq_emod_of_nonneg (by omega);
       (have _w18 : IntKind.i64.wrap ((↑_x13.toNat : Int) % (128 : Int)) = (↑_x13.toNat : Int) % (128 : Int) := wI64 (by omega) (by omega);
       (have _w19 : IntKind.i64.wrap ((↑_x13.toNat : Int) % (128 : Int) * (1 : Int)) = (↑_x13.toNat : Int) % (128 : Int) * (1 : Int) := wI64 (by omega) (by omega);
       (have _w20 : IntKind.i64.wrap ((↑(valB (List.take (0 : Nat) b)) : Int) + (↑_x13.toNat : Int) % (128 : Int) * (1 : Int)) = (↑(valB (List.take (0 : Nat) b)) : Int) + (↑_x13.toNat : Int) % (128 : Int) * (1 : Int) := wI64 (by omega) (by omega);
       (have _w21 : IntKind.i64.wrap ((0 : Int) + (1 : Int)) = (0 : Int) + (1 : Int) := wI64 (by omega) (by omega);
       (SatE.pRet (Res.mk (AV.tuple [AV.int IntKind.i64 (IntKind.i64.wrap ((↑(valB (List.take (0 : Nat) b)) : Int) + IntKind.i64.wrap (IntKind.i64.wrap ((↑_x13.toNat : Int).tmod (128 : Int)) * (1 : Int)))), AV.int IntKind.i64 (IntKind.i64.wrap ((0 : Int) + (1 : Int))), AV.bool Bool.true]) [] []) (by kernel_rfl) ⟨(valB (List.take (0 : Nat) b) + _x13.toNat % (128 : Nat) * (1 : Nat), (0 : Nat) + (1 : Nat), Bool.true), (by (clear again; simp_all)), ⟨?_, (by show (1 : Nat) ≤ b.length; (clear again; trivial))⟩⟩))))))))))))))
       (fun _h16 => (have _w22 : (↑_x13.toNat : Int).tmod (128 : Int) = (↑_x13.toNat : Int) % (128 : Int) := Int.tmod_eq_emod_of_nonneg (by omega);
       (have _w23 : IntKind.i64.wrap ((↑_x13.toNat : Int) % (128 : Int)) = (↑_x13.toNat : Int) % (128 : Int) := wI64 (by omega) (by omega);
       (have _w24 : IntKind.i64.wrap ((↑_x13.toNat : Int) % (128 : Int) * (1 : Int)) = (↑_x13.toNat : Int) % (128 : Int) * (1 : Int) := wI64 (by omega) (by omega);
       (have _w25 : IntKind.i64.wrap ((↑(valB (List.take (0 : Nat) b)) : Int) + (↑_x13.toNat : Int) % (128 : Int) * (1 : Int)) = (↑(valB (List.take (0 : Nat) b)) : Int) + (↑_x13.toNat : Int) % (128 : Int) * (1 : Int) := wI64 (by omega) (by omega);
       (have _w26 : IntKind.i64.wrap ((1 : Int) * (128 : Int)) = (1 : Int) * (128 : Int) := wI64 (by omega) (by omega);
       (have _w27 : IntKind.i64.wrap ((0 : Int) + (1 : Int)) = (0 : Int) + (1 : Int) := wI64 (by omega) (by omega);
       (SatE.pAgainE (St.mk [((0 : Nat), AV.tree (List.map encB b)), ((5 : Nat), AV.int IntKind.i64 (IntKind.i64.wrap ((↑(valB (List.take (0 : Nat) b)) : Int) + IntKind.i64.wrap (IntKind.i64.wrap ((↑_x13.toNat : Int).tmod (128 : Int)) * (1 : Int))))), ((6 : Nat), AV.int IntKind.i64 (IntKind.i64.wrap ((1 : Int) * (128 : Int)))), ((7 : Nat), AV.int IntKind.i64 (IntKind.i64.wrap ((0 : Int) + (1 : Int))))] []) (by kernel_rfl) ?_ (again (((0 : Nat) + (1 : Nat), (1 : Int) * (128 : Int))) ⟨(by show (1 : Nat) ≤ (5 : Nat); omega), ⟨(by show (1 : Int) * (128 : Int) = (128 : Int) ^ (1 : Nat); omega), ⟨(by show (1 : Nat) ≤ b.length; omega), ?_⟩⟩⟩ (by show (4 : Nat) < (5 : Nat); omega))))))))))))))))))))))
       (fun _h12 => (SatE.pIfEF ((0 : Int) < (↑(List.map encB b).length : Int)) ((0 : Nat) < b.length) (by kernel_rfl) (by simp only [List.length_map, ciLt]) _h12
       (SatE.pIfEF ((0 : Int) < (↑(List.map encB b).length : Int)) ((0 : Nat) < b.length) (by kernel_rfl) (by simp only [List.length_map, ciLt]) _h12 (SatE.pNodeF false (by kernel_rfl) rfl
       (SatE.pRet (Res.mk (AV.tuple [AV.int IntKind.i64 (0 : Int), AV.int IntKind.i64 (0 : Int), AV.bool Bool.false]) [] []) (by kernel_rfl) ⟨((0 : Nat), (0 : Nat), Bool.false), rfl, ⟨?_, (by show (0 : Nat) ≤ b.length; (clear again; trivial))⟩⟩))))))
      · exact num_yesN (by assumption) i3 (by assumption) (by omega) rfl
      · rw [vstep2 (k := 0) (M := 1) (by assumption) (by omega) rfl]; rfl
      · show ∀ y ∈ b.take (0 + 1), _
        intro y hy
        rw [take_succ (by assumption)] at hy
        rcases List.mem_append.1 hy with hy | hy
        · exact i3 y hy
        · rw [List.mem_singleton.1 hy]; omega
      · exact ⟨fun h => (by cases h), fun _ => ⟨rfl, rfl, fun v rest _ => fail_short i3 (by omega) v rest⟩⟩
    · simp only [show ((128 : Int) ^ 1) = 128 from rfl] at i4
      subst i4
      refine (SatE.pIfE ((1 : Int) < (↑(List.map encB b).length : Int)) ((1 : Nat) < b.length) (by kernel_rfl) (by simp only [List.length_map, ciLt]) (fun _h12 =>
       (SatE.pIfET ((1 : Int) < (↑(List.map encB b).length : Int)) ((1 : Nat) < b.length) (by kernel_rfl) (by simp only [List.length_map, ciLt]) _h12
       (SatE.pIfET ((1 : Int) < (↑(List.map encB b).length : Int)) ((1 : Nat) < b.length) (by kernel_rfl) (by simp only [List.length_map, ciLt]) _h12 (SatE.pNodeT true (by kernel_rfl) rfl
       (SatE.pNodeT true (by kernel_rfl) rfl (SatE.pElemM (encB) (b) (List.map encB b) ((1 : Nat)) (by kernel_rfl) rfl (by assumption) (fun _x13 _hx14 => (SatE.pNodeT true (by kernel_rfl) rfl
       (SatE.pNodeT true (by kernel_rfl) rfl (SatE.pElemH (encB) (b) (List.map encB b) ((1 : Nat)) ((1 : Nat)) (_x13) (by kernel_rfl) rfl rfl _hx14 (have _u15 : _x13.toNat < (256 : Nat) := UInt8.toNat_lt _;
       (SatE.pIfE ((↑_x13.toNat : Int) < (128 : Int)) (_x13.toNat < (128 : Nat)) (by kernel_rfl) (by simp only [icLt]) (fun _h16 => (SatE.pNodeT true (by kernel_rfl) rfl (SatE.pNodeT true (by kernel_rfl) rfl
       (SatE.pNodeT true (by kernel_rfl) rfl (SatE.pNodeT true (by kernel_rfl) rfl (SatE.pElemH (encB) (b) (List.map encB b) ((1 : Nat)) ((1 : Nat)) (_x13) (by kernel_rfl) rfl rfl _hx14
       (SatE.pNodeT true (by kernel_rfl) rfl (SatE.pNodeT true (by kernel_rfl) rfl (SatE.pNodeT true (by kernel_rfl) rfl
       (SatE.pIfE ((↑_x13.toNat : Int) = (0 : Int)) (_x13.toNat = (0 : Nat)) (by kernel_rfl) (by simp only [icEq]) (fun _h17 =>
       (SatE.pRet (Res.mk (AV.tuple [AV.int IntKind.i64 (0 : Int), AV.int IntKind.i64 (0 : Int), AV.bool Bool.false]) [] []) (by kernel_rfl) ⟨((0 : Nat), (0 : Nat), Bool.false), rfl, ⟨?_, (by show (0 : Nat) ≤ b.length; omega)⟩⟩))
       (fun _h17 => (have _w18 : (↑_x13.toNat : Int).tmod (128 : Int) = (↑_x13.toNat : Int) % (128 : Int) := Int.tmod_eq_emod_of_nonneg (by omega);
       (have _w19 : IntKind.i64.wrap ((↑_x13.toNat : Int) % (128 : Int)) = (↑_x13.toNat : Int) % (128 : Int) := wI64 (by omega) (by omega);
       (have _w20 : IntKind.i64.wrap ((↑_x13.toNat : Int) % (128 : Int) * (128 : Int)) = (↑_x13.toNat : Int) % (128 : Int) * (128 : Int) := wI64 (by omega) (by omega);
       (have _w21 : IntKind.i64.wrap ((↑(valB (List.take (1 : Nat) b)) : Int) + (↑_x13.toNat : Int) % (128 : Int) * (128 : Int)) = (↑(valB (List.take (1 : Nat) b)) : Int) + (↑_x13.toNat : Int) % (128 : Int) * (128 : Int) := wI64 (by omega) (by omega);
       (have _w22 : IntKind.i64.wrap ((1 : Int) + (1 : Int)) = (1 : Int) + (1 : Int) := wI64 (by omega) (by omega);
       (SatE.pRet (Res.mk (AV.tuple [AV.int IntKind.i64 (IntKind.i64.wrap ((↑(valB (List.take (1 : Nat) b)) : Int) + IntKind.i64.wrap (IntKind.i64.wrap ((↑_x13.toNat : Int).tmod (128 : Int)) * (128 : Int)))), AV.int IntKind.i64 (IntKind.i64.wrap ((1 : Int) + (1 : Int))), AV.bool Bool.true]) [] []) (by kernel_rfl) ⟨(valB (List.take (1 : Nat) b) + _x13.toNat % (128 : Nat) * (128 : Nat), (1 : Nat) + (1 : Nat), Bool.true), (by (clear again; simp_all)), ⟨?_, (by show (2 : Nat) ≤ b.length; (clear again; trivial))⟩⟩)))))))))))))))))
       (fun _h16 => (have _w23 : (↑_x13.toNat : Int).tmod (128 : Int) = (↑_x13.toNat : Int) % (128 : Int) := Int.tmod_eq_emod_of_nonneg (by omega);
       (have _w24 : IntKind.i64.wrap ((↑_x13.toNat : Int) % (128 : Int)) = (↑_x13.toNat : Int) % (128 : Int) := wI64 (by omega) (by omega);
       (have _w25 : IntKind.i64.wrap ((↑_x13.toNat : Int) % (128 : Int) * (128 : Int)) = (↑_x13.toNat : Int) % (128 : Int) * (128 : Int) := wI64 (by omega) (by omega);
       (have _w26 : IntKind.i64.wrap ((↑(valB (List.take (1 : Nat) b)) : Int) + (↑_x13.toNat : Int) % (128 : Int) * (128 : Int)) = (↑(valB (List.take (1 : Nat) b)) : Int) + (↑_x13.toNat : Int) % (128 : Int) * (128 : Int) := wI64 (by omega) (by omega);
       (have _w27 : IntKind.i64.wrap ((128 : Int) * (128 : Int)) = (128 : Int) * (128 : Int) := wI64 (by omega) (by omega);
       (have _w28 : IntKind.i64.wrap ((1 : Int) + (1 : Int)) = (1 : Int) + (1 : Int) := wI64 (by omega) (by omega);
       (SatE.pAgainE (St.mk [((0 : Nat), AV.tree (List.map encB b)), ((5 : Nat), AV.int IntKind.i64 (IntKind.i64.wrap ((↑(valB (List.take (1 : Nat) b)) : Int) + IntKind.i64.wrap (IntKind.i64.wrap ((↑_x13.toNat : Int).tmod (128 : Int)) * (128 : Int))))), ((6 : Nat), AV.int IntKind.i64 (IntKind.i64.wrap ((128 : Int) * (128 : Int)))), ((7 : Nat), AV.int IntKind.i64 (IntKind.i64.wrap ((1 : Int) + (1 : Int))))] []) (by kernel_rfl) ?_ (again (((1 : Nat) + (1 : Nat), (128 : Int) * (128 : Int))) ⟨(by show (2 : Nat) ≤ (5 : Nat); omega), ⟨(by show (128 : Int) * (128 : Int) = (128 : Int) ^ (2 : Nat); omega), ⟨(by show (2 : Nat) ≤ b.length; omega), ?_⟩⟩⟩ (by show (3 : Nat) < (4 : Nat); omega))))))))))))))))))))))
       (fun _h12 => (SatE.pIfEF ((1 : Int) < (↑(List.map encB b).length : Int)) ((1 : Nat) < b.length) (by kernel_rfl) (by simp only [List.length_map, ciLt]) _h12
       (SatE.pIfEF ((1 : Int) < (↑(List.map encB b).length : Int)) ((1 : Nat) < b.length) (by kernel_rfl) (by simp only [List.length_map, ciLt]) _h12 (SatE.pNodeF false (by kernel_rfl) rfl
       (SatE.pRet (Res.mk (AV.tuple [AV.int IntKind.i64 (0 : Int), AV.int IntKind.i64 (0 : Int), AV.bool Bool.false]) [] []) (by kernel_rfl) ⟨((0 : Nat), (0 : Nat), Bool.false), rfl, ⟨?_, (by show (0 : Nat) ≤ b.length; omega)⟩⟩))))))
      · exact ⟨fun h => (by cases h), fun _ => ⟨rfl, rfl, fun v rest _ => fail_odd i3 (by assumption) (by omega) (by omega) v rest⟩⟩
      · exact num_yesN (by assumption) i3 (by assumption) (by omega) rfl
      · rw [vstep2 (k := 1) (M := 128) (by assumption) (by omega) rfl]; rfl
      · show ∀ y ∈ b.take (1 + 1), _
        intro y hy
        rw [take_succ (by assumption)] at hy
        rcases List.mem_append.1 hy with hy | hy
        · exact i3 y hy
        · rw [List.mem_singleton.1 hy]; omega
      · exact ⟨fun h => (by cases h), fun _ => ⟨rfl, rfl, fun v rest _ => fail_short i3 (by omega) v rest⟩⟩
    · simp only [show ((128 : Int) ^ 2) = 16384 from rfl] at i4
      subst i4
      refine (SatE.pIfE ((2 : Int) < (↑(List.map encB b).length : Int)) ((2 : Nat) < b.length) (by kernel_rfl) (by simp only [List.length_map, ciLt]) (fun _h12 =>
       (SatE.pIfET ((2 : Int) < (↑(List.map encB b).length : Int)) ((2 : Nat) < b.length) (by kernel_rfl) (by simp only [List.length_map, ciLt]) _h12
       (SatE.pIfET ((2 : Int) < (↑(List.map encB b).length : Int)) ((2 : Nat) < b.length) (by kernel_rfl) (by simp only [List.length_map, ciLt]) _h12 (SatE.pNodeT true (by kernel_rfl) rfl
       (SatE.pNodeT true (by kernel_rfl) rfl (SatE.pElemM (encB) (b) (List.map encB b) ((2 : Nat)) (by kernel_rfl) rfl (by assumption) (fun _x13 _hx14 => (SatE.pNodeT true (by kernel_rfl) rfl
       (SatE.pNodeT true (by kernel_rfl) rfl (SatE.pElemH (encB) (b) (List.map encB b) ((2 : Nat)) ((2 : Nat)) (_x13) (by kernel_rfl) rfl rfl _hx14 (have _u15 : _x13.toNat < (256 : Nat) := UInt8.toNat_lt _;
       (SatE.pIfE ((↑_x13.toNat : Int) < (128 : Int)) (_x13.toNat < (128 : Nat)) (by kernel_rfl) (by simp only [icLt]) (fun _h16 => (SatE.pNodeT true (by kernel_rfl) rfl (SatE.pNodeT true (by kernel_rfl) rfl
       (SatE.pNodeT true (by kernel_rfl) rfl (SatE.pNodeT true (by kernel_rfl) rfl (SatE.pElemH (encB) (b) (List.map encB b) ((2 : Nat)) ((2 : Nat)) (_x13) (by kernel_rfl) rfl rfl _hx14
       (SatE.pNodeT true (by kernel_rfl) rfl (SatE.pNodeT true (by kernel_rfl) rfl (SatE.pNodeT true (by kernel_rfl) rfl
       (SatE.pIfE ((↑_x13.toNat : Int) = (0 : Int)) (_x13.toNat = (0 : Nat)) (by kernel_rfl) (by simp only [icEq]) (fun _h17 =>
       (SatE.pRet (Res.mk (AV.tuple [AV.int IntKind.i64 (0 : Int), AV.int IntKind.i64 (0 : Int), AV.bool Bool.false]) [] []) (by kernel_rfl) ⟨((0 : Nat), (0 : Nat), Bool.false), rfl, ⟨?_, (by show (0 : Nat) ≤ b.length; omega)⟩⟩))
       (fun _h17 => (have _w18 : (↑_x13.toNat : Int).tmod (128 : Int) = (↑_x13.toNat : Int) % (128 : Int) := Int.tmod_eq_emod_of_nonneg (by omega);
       (have _w19 : IntKind.i64.wrap ((↑_x13.toNat : Int) % (128 : Int)) = (↑_x13.toNat : Int) % (128 : Int) := wI64 (by omega) (by omega);
       (have _w20 : IntKind.i64.wrap ((↑_x13.toNat : Int) % (128 : Int) * (16384 : Int)) = (↑_x13.toNat : Int) % (128 : Int) * (16384 : Int) := wI64 (by omega) (by omega);
       (have _w21 : IntKind.i64.wrap ((↑(valB (List.take (2 : Nat) b)) : Int) + (↑_x13.toNat : Int) % (128 : Int) * (16384 : Int)) = (↑(valB (List.take (2 : Nat) b)) : Int) + (↑_x13.toNat : Int) % (128 : Int) * (16384 : Int) := wI64 (by omega) (by omega);
       (have _w22 : IntKind.i64.wrap ((2 : Int) + (1 : Int)) = (2 : Int) + (1 : Int) := wI64 (by omega) (by omega);
       (SatE.pRet (Res.mk (AV.tuple [AV.int IntKind.i64 (IntKind.i64.wrap ((↑(valB (List.take (2 : Nat) b)) : Int) + IntKind.i64.wrap (IntKind.i64.wrap ((↑_x13.toNat : Int).tmod (128 : Int)) * (16384 : Int)))), AV.int IntKind.i64 (IntKind.i64.wrap ((2 : Int) + (1 : Int))), AV.bool Bool.true]) [] []) (by kernel_rfl) ⟨(valB (List.take (2 : Nat) b) + _x13.toNat % (128 : Nat) * (16384 : Nat), (2 : Nat) + (1 : Nat), Bool.true), (by (clear again; simp_all)), ⟨?_, (by show (3 : Nat) ≤ b.length; (clear again; trivial))⟩⟩)))))))))))))))))
       (fun _h16 => (have _w23 : (↑_x13.toNat : Int).tmod (128 : Int) = (↑_x13.toNat : Int) % (128 : Int) := Int.tmod_eq_emod_of_nonneg (by omega);
       (have _w24 : IntKind.i64.wrap ((↑_x13.toNat : Int) % (128 : Int)) = (↑_x13.toNat : Int) % (128 : Int) := wI64 (by omega) (by omega);
       (have _w25 : IntKind.i64.wrap ((↑_x13.toNat : Int) % (128 : Int) * (16384 : Int)) = (↑_x13.toNat : Int) % (128 : Int) * (16384 : Int) := wI64 (by omega) (by omega);
       (have _w26 : IntKind.i64.wrap ((↑(valB (List.take (2 : Nat) b)) : Int) + (↑_x13.toNat : Int) % (128 : Int) * (16384 : Int)) = (↑(valB (List.take (2 : Nat) b)) : Int) + (↑_x13.toNat : Int) % (128 : Int) * (16384 : Int) := wI64 (by omega) (by omega);
       (have _w27 : IntKind.i64.wrap ((16384 : Int) * (128 : Int)) = (16384 : Int) * (128 : Int) := wI64 (by omega) (by omega);
       (have _w28 : IntKind.i64.wrap ((2 : Int) + (1 : Int)) = (2 : Int) + (1 : Int) := wI64 (by omega) (by omega);
       (SatE.pAgainE (St.mk [((0 : Nat), AV.tree (List.map encB b)), ((5 : Nat), AV.int IntKind.i64 (IntKind.i64.wrap ((↑(valB (List.take (2 : Nat) b)) : Int) + IntKind.i64.wrap (IntKind.i64.wrap ((↑_x13.toNat : Int).tmod (128 : Int)) * (16384 : Int))))), ((6 : Nat), AV.int IntKind.i64 (IntKind.i64.wrap ((16384 : Int) * (128 : Int)))), ((7 : Nat), AV.int IntKind.i64 (IntKind.i64.wrap ((2 : Int) + (1 : Int))))] []) (by kernel_rfl) ?_ (again (((2 : Nat) + (1 : Nat), (16384 : Int) * (128 : Int))) ⟨(by show (3 : Nat) ≤ (5 : Nat); omega), ⟨(by show (16384 : Int) * (128 : Int) = (128 : Int) ^ (3 : Nat); omega), ⟨(by show (3 : Nat) ≤ b.length; omega), ?_⟩⟩⟩ (by show (2 : Nat) < (3 : Nat); omega))))))))))))))))))))))
       (fun _h12 => (SatE.pIfEF ((2 : Int) < (↑(List.map encB b).length : Int)) ((2 : Nat) < b.length) (by kernel_rfl) (by simp only [List.length_map, ciLt]) _h12
       (SatE.pIfEF ((2 : Int) < (↑(List.map encB b).length : Int)) ((2 : Nat) < b.length) (by kernel_rfl) (by simp only [List.length_map, ciLt]) _h12 (SatE.pNodeF false (by kernel_rfl) rfl
       (SatE.pRet (Res.mk (AV.tuple [AV.int IntKind.i64 (0 : Int), AV.int IntKind.i64 (0 : Int), AV.bool Bool.false]) [] []) (by kernel_rfl) ⟨((0 : Nat), (0 : Nat), Bool.false), rfl, ⟨?_, (by show (0 : Nat) ≤ b.length; omega)⟩⟩))))))
      · exact ⟨fun h => (by cases h), fun _ => ⟨rfl, rfl, fun v rest _ => fail_odd i3 (by assumption) (by omega) (by omega) v rest⟩⟩
      · exact num_yesN (by assumption) i3 (by assumption) (by omega) rfl
      · rw [vstep2 (k := 2) (M := 16384) (by assumption) (by omega) rfl]; rfl
      · show ∀ y ∈ b.take (2 + 1), _
        intro y hy
        rw [take_succ (by assumption)] at hy
        rcases List.mem_append.1 hy with hy | hy
        · exact i3 y hy
        · rw [List.mem_singleton.1 hy]; omega
      · exact ⟨fun h => (by cases h), fun _ => ⟨rfl, rfl, fun v rest _ => fail_short i3 (by omega) v rest⟩⟩
    · simp only [show ((128 : Int) ^ 3) = 2097152 from rfl] at i4
      subst i4
      refine (SatE.pIfE ((3 : Int) < (↑(List.map encB b).length : Int)) ((3 : Nat) < b.length) (by kernel_rfl) (by simp only [List.length_map, ciLt]) (fun _h12 =>
       (SatE.pIfET ((3 : Int) < (↑(List.map encB b).length : Int)) ((3 : Nat) < b.length) (by kernel_rfl) (by simp only [List.length_map, ciLt]) _h12
       (SatE.pIfET ((3 : Int) < (↑(List.map encB b).length : Int)) ((3 : Nat) < b.length) (by kernel_rfl) (by simp only [List.length_map, ciLt]) _h12 (SatE.pNodeT true (by kernel_rfl) rfl
       (SatE.pNodeT true (by kernel_rfl) rfl (SatE.pElemM (encB) (b) (List.map encB b) ((3 : Nat)) (by kernel_rfl) rfl (by assumption) (fun _x13 _hx14 => (SatE.pNodeT true (by kernel_rfl) rfl
       (SatE.pNodeT true (by kernel_rfl) rfl (SatE.pElemH (encB) (b) (List.map encB b) ((3 : Nat)) ((3 : Nat)) (_x13) (by kernel_rfl) rfl rfl _hx14 (have _u15 : _x13.toNat < (256 : Nat) := UInt8.toNat_lt _;
       (SatE.pIfE ((↑_x13.toNat : Int) < (128 : Int)) (_x13.toNat < (128 : Nat)) (by kernel_rfl) (by simp only [icLt]) (fun _h16 => (SatE.pNodeT true (by kernel_rfl) rfl (SatE.pNodeT true (by kernel_rfl) rfl
       (SatE.pNodeT true (by kernel_rfl) rfl (SatE.pNodeT true (by kernel_rfl) rfl (SatE.pElemH (encB) (b) (List.map encB b) ((3 : Nat)) ((3 : Nat)) (_x13) (by kernel_rfl) rfl rfl _hx14
       (SatE.pNodeT true (by kernel_rfl) rfl (SatE.pNodeT true (by kernel_rfl) rfl (SatE.pNodeT true (by kernel_rfl) rfl
       (SatE.pIfE ((↑_x13.toNat : Int) = (0 : Int)) (_x13.toNat = (0 : Nat)) (by kernel_rfl) (by simp only [icEq]) (fun _h17 =>
       (SatE.pRet (Res.mk (AV.tuple [AV.int IntKind.i64 (0 : Int), AV.int IntKind.i64 (0 : Int), AV.bool Bool.false]) [] []) (by kernel_rfl) ⟨((0 : Nat), (0 : Nat), Bool.false), rfl, ⟨?_, (by show (0 : Nat) ≤ b.length; omega)⟩⟩))
       (fun _h17 => (have _w18 : (↑_x13.toNat : Int).tmod (128 : Int) = (↑_x13.toNat : Int) % (128 : Int) := Int.tmod_eq_emod_of_nonneg (by omega);
       (have _w19 : IntKind.i64.wrap ((↑_x13.toNat : Int) % (128 : Int)) = (↑_x13.toNat : Int) % (128 : Int) := wI64 (by omega) (by omega);
       (have _w20 : IntKind.i64.wrap ((↑_x13.toNat : Int) % (128 : Int) * (2097152 : Int)) = (↑_x13.toNat : Int) % (128 : Int) * (2097152 : Int) := wI64 (by omega) (by omega);
       (have _w21 : IntKind.i64.wrap ((↑(valB (List.take (3 : Nat) b)) : Int) + (↑_x13.toNat : Int) % (128 : Int) * (2097152 : Int)) = (↑(valB (List.take (3 : Nat) b)) : Int) + (↑_x13.toNat : Int) % (128 : Int) * (2097152 : Int) := wI64 (by omega) (by omega);
       (have _w22 : IntKind.i64.wrap ((3 : Int) + (1 : Int)) = (3 : Int) + (1 : Int) := wI64 (by omega) (by omega);
       (SatE.pRet (Res.mk (AV.tuple [AV.int IntKind.i64 (IntKind.i64.wrap ((↑(valB (List.take (3 : Nat) b)) : Int) + IntKind.i64.wrap (IntKind.i64.wrap ((↑_x13.toNat : Int).tmod (128 : Int)) * (2097152 : Int)))), AV.int IntKind.i64 (IntKind.i64.wrap ((3 : Int) + (1 : Int))), AV.bool Bool.true]) [] []) (by kernel_rfl) ⟨(valB (List.take (3 : Nat) b) + _x13.toNat % (128 : Nat) * (2097152 : Nat), (3 : Nat) + (1 : Nat), Bool.true), (by (clear again; simp_all)), ⟨?_, (by show (4 : Nat) ≤ b.length; (clear again; trivial))⟩⟩)))))))))))))))))
       (fun _h16 => (have _w23 : (↑_x13.toNat : Int).tmod (128 : Int) = (↑_x13.toNat : Int) % (128 : Int) := Int.tmod_eq_emod_of_nonneg (by omega);
       (have _w24 : IntKind.i64.wrap ((↑_x13.toNat : Int) % (128 : Int)) = (↑_x13.toNat : Int) % (128 : Int) := wI64 (by omega) (by omega);
       (have _w25 : IntKind.i64.wrap ((↑_x13.toNat : Int) % (128 : Int) * (2097152 : Int)) = (↑_x13.toNat : Int) % (128 : Int) * (2097152 : Int) := wI64 (by omega) (by omega);
       (have _w26 : IntKind.i64.wrap ((↑(valB (List.take (3 : Nat) b)) : Int) + (↑_x13.toNat : Int) % (128 : Int) * (2097152 : Int)) = (↑(valB (List.take (3 : Nat) b)) : Int) + (↑_x13.toNat : Int) % (128 : Int) * (2097152 : Int) := wI64 (by omega) (by omega);
       (have _w27 : IntKind.i64.wrap ((2097152 : Int) * (128 : Int)) = (2097152 : Int) * (128 : Int) := wI64 (by omega) (by omega);
       (have _w28 : IntKind.i64.wrap ((3 : Int) + (1 : Int)) = (3 : Int) + (1 : Int) := wI64 (by omega) (by omega);
       (SatE.pAgainE (St.mk [((0 : Nat), AV.tree (List.map encB b)), ((5 : Nat), AV.int IntKind.i64 (IntKind.i64.wrap ((↑(valB (List.take (3 : Nat) b)) : Int) + IntKind.i64.wrap (IntKind.i64.wrap ((↑_x13.toNat : Int).tmod (128 : Int)) * (2097152 : Int))))), ((6 : Nat), AV.int IntKind.i64 (IntKind.i64.wrap ((2097152 : Int) * (128 : Int)))), ((7 : Nat), AV.int IntKind.i64 (IntKind.i64.wrap ((3 : Int) + (1 : Int))))] []) (by kernel_rfl) ?_ (again (((3 : Nat) + (1 : Nat), (2097152 : Int) * (128 : Int))) ⟨(by show (4 : Nat) ≤ (5 : Nat); omega), ⟨(by show (2097152 : Int) * (128 : Int) = (128 : Int) ^ (4 : Nat); omega), ⟨(by show (4 : Nat) ≤ b.length; omega), ?_⟩⟩⟩ (by show (1 : Nat) < (2 : Nat); omega))))))))))))))))))))))
       (fun _h12 => (SatE.pIfEF ((3 : Int) < (↑(List.map encB b).length : Int)) ((3 : Nat) < b.length) (by kernel_rfl) (by simp only [List.length_map, ciLt]) _h12
       (SatE.pIfEF ((3 : Int) < (↑(List.map encB b).length : Int)) ((3 : Nat) < b.length) (by kernel_rfl) (by simp only [List.length_map, ciLt]) _h12 (SatE.pNodeF false (by kernel_rfl) rfl
       (SatE.pRet (Res.mk (AV.tuple [AV.int IntKind.i64 (0 : Int), AV.int IntKind.i64 (0 : Int), AV.bool Bool.false]) [] []) (by kernel_rfl) ⟨((0 : Nat), (0 : Nat), Bool.false), rfl, ⟨?_, (by show (0 : Nat) ≤ b.length; omega)⟩⟩))))))
      · exact ⟨fun h => (by cases h), fun _ => ⟨rfl, rfl, fun v rest _ => fail_odd i3 (by assumption) (by omega) (by omega) v rest⟩⟩
      · exact num_yesN (by assumption) i3 (by assumption) (by omega) rfl
      · rw [vstep2 (k := 3) (M := 2097152) (by assumption) (by omega) rfl]; rfl
      · show ∀ y ∈ b.take (3 + 1), _
        intro y hy
        rw [take_succ (by assumption)] at hy
        rcases List.mem_append.1 hy with hy | hy
        · exact i3 y hy
        · rw [List.mem_singleton.1 hy]; omega
      · exact ⟨fun h => (by cases h), fun _ => ⟨rfl, rfl, fun v rest _ => fail_short i3 (by omega) v rest⟩⟩
    · simp only [show ((128 : Int) ^ 4) = 268435456 from rfl] at i4
      subst i4
      refine (SatE.pIfE ((4 : Int) < (↑(List.map encB b).length : Int)) ((4 : Nat) < b.length) (by kernel_rfl) (by simp only [List.length_map, ciLt]) (fun _h12 =>
       (SatE.pIfET ((4 : Int) < (↑(List.map encB b).length : Int)) ((4 : Nat) < b.length) (by kernel_rfl) (by simp only [List.length_map, ciLt]) _h12
       (SatE.pIfET ((4 : Int) < (↑(List.map encB b).length : Int)) ((4 : Nat) < b.length) (by kernel_rfl) (by simp only [List.length_map, ciLt]) _h12 (SatE.pNodeT true (by kernel_rfl) rfl
       (SatE.pNodeT true (by kernel_rfl) rfl (SatE.pElemM (encB) (b) (List.map encB b) ((4 : Nat)) (by kernel_rfl) rfl (by assumption) (fun _x13 _hx14 => (SatE.pNodeT true (by kernel_rfl) rfl
       (SatE.pNodeT true (by kernel_rfl) rfl (SatE.pElemH (encB) (b) (List.map encB b) ((4 : Nat)) ((4 : Nat)) (_x13) (by kernel_rfl) rfl rfl _hx14 (have _u15 : _x13.toNat < (256 : Nat) := UInt8.toNat_lt _;
       (SatE.pIfE ((↑_x13.toNat : Int) < (128 : Int)) (_x13.toNat < (128 : Nat)) (by kernel_rfl) (by simp only [icLt]) (fun _h16 => (SatE.pNodeT true (by kernel_rfl) rfl (SatE.pNodeT true (by kernel_rfl) rfl
       (SatE.pNodeT true (by kernel_rfl) rfl (SatE.pNodeT true (by kernel_rfl) rfl (SatE.pElemH (encB) (b) (List.map encB b) ((4 : Nat)) ((4 : Nat)) (_x13) (by kernel_rfl) rfl rfl _hx14
       (SatE.pNodeT true (by kernel_rfl) rfl (SatE.pNodeT true (by kernel_rfl) rfl (SatE.pNodeT true (by kernel_rfl) rfl
       (SatE.pIfE ((↑_x13.toNat : Int) = (0 : Int)) (_x13.toNat = (0 : Nat)) (by kernel_rfl) (by simp only [icEq]) (fun _h17 =>
       (SatE.pRet (Res.mk (AV.tuple [AV.int IntKind.i64 (0 : Int), AV.int IntKind.i64 (0 : Int), AV.bool Bool.false]) [] []) (by kernel_rfl) ⟨((0 : Nat), (0 : Nat), Bool.false), rfl, ⟨?_, (by show (0 : Nat) ≤ b.length; omega)⟩⟩))
       (fun _h17 => (have _w18 : (↑_x13.toNat : Int).tmod (128 : Int) = (↑_x13.toNat : Int) % (128 : Int) := Int.tmod_eq_emod_of_nonneg (by omega);
       (have _w19 : IntKind.i64.wrap ((↑_x13.toNat : Int) % (128 : Int)) = (↑_x13.toNat : Int) % (128 : Int) := wI64 (by omega) (by omega);
       (have _w20 : IntKind.i64.wrap ((↑_x13.toNat : Int) % (128 : Int) * (268435456 : Int)) = (↑_x13.toNat : Int) % (128 : Int) * (268435456 : Int) := wI64 (by omega) (by omega);
       (have _w21 : IntKind.i64.wrap ((↑(valB (List.take (4 : Nat) b)) : Int) + (↑_x13.toNat : Int) % (128 : Int) * (268435456 : Int)) = (↑(valB (List.take (4 : Nat) b)) : Int) + (↑_x13.toNat : Int) % (128 : Int) * (268435456 : Int) := wI64 (by omega) (by omega);
       (have _w22 : IntKind.i64.wrap ((4 : Int) + (1 : Int)) = (4 : Int) + (1 : Int) := wI64 (by omega) (by omega);
       (SatE.pRet (Res.mk (AV.tuple [AV.int IntKind.i64 (IntKind.i64.wrap ((↑(valB (List.take (4 : Nat) b)) : Int) + IntKind.i64.wrap (IntKind.i64.wrap ((↑_x13.toNat : Int).tmod (128 : Int)) * (268435456 : Int)))), AV.int IntKind.i64 (IntKind.i64.wrap ((4 : Int) + (1 : Int))), AV.bool Bool.true]) [] []) (by kernel_rfl) ⟨(valB (List.take (4 : Nat) b) + _x13.toNat % (128 : Nat) * (268435456 : Nat), (4 : Nat) + (1 : Nat), Bool.true), (by (clear again; simp_all)), ⟨?_, (by show (5 : Nat) ≤ b.length; (clear again; trivial))⟩⟩)))))))))))))))))
       (fun _h16 => (have _w23 : (↑_x13.toNat : Int).tmod (128 : Int) = (↑_x13.toNat : Int) % (128 : Int) := Int.tmod_eq_emod_of_nonneg (by omega);
       (have _w24 : IntKind.i64.wrap ((↑_x13.toNat : Int) % (128 : Int)) = (↑_x13.toNat : Int) % (128 : Int) := wI64 (by omega) (by omega);
       (have _w25 : IntKind.i64.wrap ((↑_x13.toNat : Int) % (128 : Int) * (268435456 : Int)) = (↑_x13.toNat : Int) % (128 : Int) * (268435456 : Int) := wI64 (by omega) (by omega);
       (have _w26 : IntKind.i64.wrap ((↑(valB (List.take (4 : Nat) b)) : Int) + (↑_x13.toNat : Int) % (128 : Int) * (268435456 : Int)) = (↑(valB (List.take (4 : Nat) b)) : Int) + (↑_x13.toNat : Int) % (128 : Int) * (268435456 : Int) := wI64 (by omega) (by omega);
       (have _w27 : IntKind.i64.wrap ((268435456 : Int) * (128 : Int)) = (268435456 : Int) * (128 : Int) := wI64 (by omega) (by omega);
       (have _w28 : IntKind.i64.wrap ((4 : Int) + (1 : Int)) = (4 : Int) + (1 : Int) := wI64 (by omega) (by omega);
       (SatE.pAgainE (St.mk [((0 : Nat), AV.tree (List.map encB b)), ((5 : Nat), AV.int IntKind.i64 (IntKind.i64.wrap ((↑(valB (List.take (4 : Nat) b)) : Int) + IntKind.i64.wrap (IntKind.i64.wrap ((↑_x13.toNat : Int).tmod (128 : Int)) * (268435456 : Int))))), ((6 : Nat), AV.int IntKind.i64 (IntKind.i64.wrap ((268435456 : Int) * (128 : Int)))), ((7 : Nat), AV.int IntKind.i64 (IntKind.i64.wrap ((4 : Int) + (1 : Int))))] []) (by kernel_rfl) ?_ (again (((4 : Nat) + (1 : Nat), (268435456 : Int) * (128 : Int))) ⟨(by show (5 : Nat) ≤ (5 : Nat); omega), ⟨(by show (268435456 : Int) * (128 : Int) = (128 : Int) ^ (5 : Nat); omega), ⟨(by show (5 : Nat) ≤ b.length; omega), ?_⟩⟩⟩ (by show (0 : Nat) < (1 : Nat); omega))))))))))))))))))))))
       (fun _h12 => (SatE.pIfEF ((4 : Int) < (↑(List.map encB b).length : Int)) ((4 : Nat) < b.length) (by kernel_rfl) (by simp only [List.length_map, ciLt]) _h12
       (SatE.pIfEF ((4 : Int) < (↑(List.map encB b).length : Int)) ((4 : Nat) < b.length) (by kernel_rfl) (by simp only [List.length_map, ciLt]) _h12 (SatE.pNodeF false (by kernel_rfl) rfl
       (SatE.pRet (Res.mk (AV.tuple [AV.int IntKind.i64 (0 : Int), AV.int IntKind.i64 (0 : Int), AV.bool Bool.false]) [] []) (by kernel_rfl) ⟨((0 : Nat), (0 : Nat), Bool.false), rfl, ⟨?_, (by show (0 : Nat) ≤ b.length; omega)⟩⟩))))))
      · exact ⟨fun h => (by cases h), fun _ => ⟨rfl, rfl, fun v rest _ => fail_odd i3 (by assumption) (by omega) (by omega) v rest⟩⟩
      · exact num_yesN (by assumption) i3 (by assumption) (by omega) rfl
      · rw [vstep2 (k := 4) (M := 268435456) (by assumption) (by omega) rfl]; rfl
      · show ∀ y ∈ b.take (4 + 1), _
        intro y hy
        rw [take_succ (by assumption)] at hy
        rcases List.mem_append.1 hy with hy | hy
        · exact i3 y hy
        · rw [List.mem_singleton.1 hy]; omega
      · exact ⟨fun h => (by cases h), fun _ => ⟨rfl, rfl, fun v rest _ => fail_short i3 (by omega) v rest⟩⟩
    · simp only [show ((128 : Int) ^ 5) = 34359738368 from rfl] at i4
      subst i4
      refine (SatE.pIfE ((5 : Int) < (↑(List.map encB b).length : Int)) ((5 : Nat) < b.length) (by kernel_rfl) (by simp only [List.length_map, ciLt]) (fun _h12 =>
       (SatE.pIfET ((5 : Int) < (↑(List.map encB b).length : Int)) ((5 : Nat) < b.length) (by kernel_rfl) (by simp only [List.length_map, ciLt]) _h12
       (SatE.pIfET ((5 : Int) < (↑(List.map encB b).length : Int)) ((5 : Nat) < b.length) (by kernel_rfl) (by simp only [List.length_map, ciLt]) _h12 (SatE.pNodeF false (by kernel_rfl) rfl
       (SatE.pRet (Res.mk (AV.tuple [AV.int IntKind.i64 (0 : Int), AV.int IntKind.i64 (0 : Int), AV.bool Bool.false]) [] []) (by kernel_rfl) ⟨((0 : Nat), (0 : Nat), Bool.false), rfl, ⟨?_, (by show (0 : Nat) ≤ b.length; omega)⟩⟩)))))
       (fun _h12 => (SatE.pIfEF ((5 : Int) < (↑(List.map encB b).length : Int)) ((5 : Nat) < b.length) (by kernel_rfl) (by simp only [List.length_map, ciLt]) _h12
       (SatE.pIfEF ((5 : Int) < (↑(List.map encB b).length : Int)) ((5 : Nat) < b.length) (by kernel_rfl) (by simp only [List.length_map, ciLt]) _h12 (SatE.pNodeF false (by kernel_rfl) rfl
       (SatE.pRet (Res.mk (AV.tuple [AV.int IntKind.i64 (0 : Int), AV.int IntKind.i64 (0 : Int), AV.bool Bool.false]) [] []) (by kernel_rfl) ⟨((0 : Nat), (0 : Nat), Bool.false), rfl, ⟨?_, (by show (0 : Nat) ≤ b.length; omega)⟩⟩))))))
      · exact ⟨fun h => (by cases h), fun _ => ⟨rfl, rfl, fun v rest hv => fail_long i3 v rest hv⟩⟩
      · exact ⟨fun h => (by cases h), fun _ => ⟨rfl, rfl, fun v rest hv => fail_long i3 v rest hv⟩⟩
end Go.Ab.Tryz
