/- Package bits: numbers and texts out of bytes, as plain Lean. -/
import Derived.Test.YtodelhgblkhjgaaGreatDoorVputb
namespace Go.Ab.Tryz
open Go
set_option maxRecDepth 100000
set_option maxHeartbeats 4000000
/-- Why there is no number: bytes end too soon, or are none. -/
inductive NE where | ok | short | odd
def encNE : NE → AV
  | .ok => .nili
  | .short => .iface 121 (.agg [.iface 115 (.agg [])])
  | .odd => .iface 121 (.agg [.iface 116 (.agg [])])
def valB : List UInt8 → Nat
  | [] => 0
  | c :: r => c.toNat % 128 + 128 * valB r
theorem valB_app : ∀ (l : List UInt8) (c : UInt8), valB (l ++ [c]) = valB l + 128 ^ l.length * (c.toNat % 128)
  | [], c => by simp [valB]
  | x :: l, c => by
    have := valB_app l c
    simp only [List.cons_append, valB, this, List.length_cons, Nat.pow_succ]
    rw [Nat.mul_add, Nat.add_assoc]
    congr 2
    rw [← Nat.mul_assoc, Nat.mul_comm 128]
theorem valB_lt : ∀ l : List UInt8, valB l < 128 ^ l.length
  | [] => by simp [valB]
  | x :: l => by
    have := valB_lt l
    simp only [valB, List.length_cons, Nat.pow_succ]
    have h2 := Nat.mod_lt x.toNat (show 0 < 128 by omega)
    omega
theorem numB_val : ∀ (l : List UInt8) (c : UInt8), (∀ x ∈ l, 128 ≤ x.toNat) → c.toNat < 128 → (l = [] ∨ c ≠ 0) → numB (valB (l ++ [c])) = l ++ [c]
  | [], c, _, hc, _ => by
    have : valB ([] ++ [c]) = c.toNat := by simp [valB]; omega
    rw [this, numB_small (by omega)]; simp
  | x :: l, c, hl, hc, hz => by
    have hx := hl x (List.mem_cons_self ..)
    have hx2 := UInt8.toNat_lt x
    have hc0 : c ≠ 0 := by rcases hz with h | h; exact absurd h (by simp); exact h
    have hc1 : 0 < c.toNat := by
      rcases Nat.eq_zero_or_pos c.toNat with h | h
      · exact absurd (UInt8.toNat_inj.1 (by simpa using h)) hc0
      · exact h
    have ih := numB_val l c (fun y hy => hl y (List.mem_cons_of_mem _ hy)) hc (.inr hc0)
    have hp : 0 < valB (l ++ [c]) := by
      rw [valB_app]
      have : 0 < 128 ^ l.length * (c.toNat % 128) := Nat.mul_pos (Nat.pow_pos (by omega)) (by omega)
      omega
    have e : valB (x :: l ++ [c]) = x.toNat % 128 + 128 * valB (l ++ [c]) := rfl
    rw [e, numB_big (by omega), show (x.toNat % 128 + 128 * valB (l ++ [c])) / 128 = valB (l ++ [c]) by omega, ih]
    have : UInt8.ofNat ((x.toNat % 128 + 128 * valB (l ++ [c])) % 128 + 128) = x := by
      apply UInt8.toNat_inj.1
      rw [UInt8.toNat_ofNat']; omega
    rw [this]; rfl
theorem numB_form : ∀ v : Nat, ∃ (l : List UInt8) (c : UInt8), numB v = l ++ [c] ∧ (∀ x ∈ l, 128 ≤ x.toNat) ∧ c.toNat < 128 ∧ (l = [] ∨ c ≠ 0) := by
  intro v
  induction v using Nat.strongRecOn with
  | ind v ih =>
    by_cases h : 128 ≤ v
    · obtain ⟨l, c, h1, h2, h3, h4⟩ := ih (v / 128) (by omega)
      refine ⟨UInt8.ofNat (v % 128 + 128) :: l, c, by rw [numB_big h, h1]; rfl, fun x hx => ?_, h3, .inr ?_⟩
      · rcases List.mem_cons.1 hx with rfl | hx
        · rw [UInt8.toNat_ofNat']; omega
        · exact h2 x hx
      · rcases h4 with rfl | h4
        · intro e
          subst e
          by_cases h5 : 128 ≤ v / 128
          · rw [numB_big h5] at h1
            have h6 := congrArg List.length h1
            have h7 : 0 < (numB (v / 128 / 128)).length := List.length_pos_iff.2 (numB_ne _)
            simp only [List.length_cons, List.nil_append, List.length_nil] at h6; omega
          · rw [numB_small h5] at h1
            simp only [List.nil_append, List.cons.injEq, and_true] at h1
            have := congrArg UInt8.toNat h1
            rw [UInt8.toNat_ofNat'] at this
            simp at this; omega
        · exact h4
    · exact ⟨[], UInt8.ofNat v, by rw [numB_small h]; rfl, by simp, by rw [UInt8.toNat_ofNat']; omega, .inl rfl⟩
theorem fail_short {b : List UInt8} {k : Nat} (h : ∀ x ∈ b.take k, 128 ≤ x.toNat) (hk : b.length ≤ k) (v : Nat) (rest : List UInt8) : b ≠ numB v ++ rest := by
  rintro rfl
  obtain ⟨l, c, h1, h2, h3, h4⟩ := numB_form v
  rw [List.take_of_length_le hk] at h
  have := h c (by rw [h1]; simp)
  omega
theorem fail_odd {b : List UInt8} {k : Nat} {z : UInt8} (h : ∀ x ∈ b.take k, 128 ≤ x.toNat) (hz : b[k]? = some z) (h0 : z.toNat = 0) (hk : 0 < k) (v : Nat) (rest : List UInt8) : b ≠ numB v ++ rest := by
  rintro rfl
  obtain ⟨l, c, h1, h2, h3, h4⟩ := numB_form v
  rw [h1] at h hz
  rcases Nat.lt_trichotomy l.length k with hp | hp | hp
  · have : c ∈ (l ++ [c] ++ rest).take k := by
      rw [List.append_assoc, List.take_append, List.mem_append]
      refine .inr ?_
      obtain ⟨j, hj⟩ : ∃ j, k - l.length = j + 1 := ⟨k - l.length - 1, by omega⟩
      rw [hj]; simp
    have := h c this; omega
  · subst hp
    simp at hz
    subst hz
    rcases h4 with rfl | h4
    · simp at hk
    · exact h4 (UInt8.toNat_inj.1 (by simpa using h0))
  · rw [List.append_assoc, List.getElem?_append_left hp] at hz
    have := h2 z (List.mem_of_getElem? hz)
    omega
theorem fail_long {b : List UInt8} (h : ∀ x ∈ b.take 5, 128 ≤ x.toNat) (v : Nat) (rest : List UInt8) (hv : v ≤ 1000000000) : b ≠ numB v ++ rest := by
  rintro rfl
  have hn := numB_len v hv
  obtain ⟨l, c, h1, h2, h3, h4⟩ := numB_form v
  rw [h1] at h hn
  simp only [List.length_append, List.length_cons, List.length_nil] at hn
  have : c ∈ (l ++ [c] ++ rest).take 5 := by
    rw [List.append_assoc, List.take_append, List.mem_append]
    refine .inr ?_
    obtain ⟨j, hj⟩ : ∃ j, 5 - l.length = j + 1 := ⟨4 - l.length, by omega⟩
    rw [hj]; simp
  have := h c this; omega
theorem orV (a e : Nat) (x : UInt8) (ha : a < 2 ^ e) (he : e ≤ 28) : IntKind.i64.wrap ((BitVec.ofInt 64 (a : Int) ||| BitVec.ofInt 64 (IntKind.i64.wrap (IntKind.i64.wrap (IntKind.u8.wrap ((BitVec.ofInt 8 (x.toNat : Int) &&& BitVec.ofInt 8 127).toNat : Int)) * 2 ^ e))).toNat : Int) = ((a + 2 ^ e * (x.toNat % 128) : Nat) : Int) := by
  have hx := UInt8.toNat_lt x
  have h1 : (BitVec.ofInt 8 (x.toNat : Int) &&& BitVec.ofInt 8 127).toNat = x.toNat % 128 := by
    rw [BitVec.ofInt_natCast, show BitVec.ofInt 8 127 = BitVec.ofNat 8 127 from rfl, BitVec.toNat_and, BitVec.toNat_ofNat, BitVec.toNat_ofNat, Nat.mod_eq_of_lt (by omega : x.toNat < 2 ^ 8)]
    exact Nat.and_two_pow_sub_one_eq_mod x.toNat 7
  have h2 : 2 ^ e ≤ 2 ^ 28 := Nat.pow_le_pow_right (by omega) he
  have h3 : x.toNat % 128 < 128 := Nat.mod_lt _ (by omega)
  have h4 : 2 ^ e * (x.toNat % 128) ≤ 2 ^ 28 * 127 := Nat.mul_le_mul h2 (by omega)
  have e1 : IntKind.i64.wrap ((x.toNat % 128 : Nat) : Int) = ((x.toNat % 128 : Nat) : Int) := wI64 (by omega) (by omega)
  have e2 : ((x.toNat % 128 : Nat) : Int) * 2 ^ e = ((2 ^ e * (x.toNat % 128) : Nat) : Int) := by
    rw [Int.natCast_mul, Int.natCast_pow, Int.mul_comm]; rfl
  have e3 : IntKind.i64.wrap ((2 ^ e * (x.toNat % 128) : Nat) : Int) = ((2 ^ e * (x.toNat % 128) : Nat) : Int) := wI64 (by omega) (by omega)
  rw [h1, wU8 (by omega) (by omega), e1, e2, e3, BitVec.ofInt_natCast, BitVec.ofInt_natCast, BitVec.toNat_or, BitVec.toNat_ofNat, BitVec.toNat_ofNat, Nat.mod_eq_of_lt (show a < 2 ^ 64 by omega), Nat.mod_eq_of_lt (show 2 ^ e * (x.toNat % 128) < 2 ^ 64 by omega), Nat.or_comm, ← Nat.two_pow_add_eq_or_of_lt ha, wI64 (by omega) (by omega), Nat.add_comm]
theorem take_valB {b : List UInt8} {k : Nat} {x : UInt8} (hx : b[k]? = some x) : valB (b.take (k + 1)) = valB (b.take k) + 2 ^ (7 * k) * (x.toNat % 128) := by
  have hk := (List.getElem?_eq_some_iff.1 hx).1
  rw [take_succ hx, valB_app, List.length_take, Nat.min_eq_left (by omega), Nat.pow_mul]
theorem vstep {b : List UInt8} {k e : Nat} {x : UInt8} (hx : b[k]? = some x) (hk : k ≤ 4) (he : e = 7 * k) : IntKind.i64.wrap ((BitVec.ofInt 64 (valB (b.take k) : Int) ||| BitVec.ofInt 64 (IntKind.i64.wrap (IntKind.i64.wrap (IntKind.u8.wrap ((BitVec.ofInt 8 (x.toNat : Int) &&& BitVec.ofInt 8 127).toNat : Int)) * 2 ^ e))).toNat : Int) = (valB (b.take (k + 1)) : Int) := by
  subst he
  have hk2 := (List.getElem?_eq_some_iff.1 hx).1
  have hl := valB_lt (b.take k)
  rw [List.length_take, Nat.min_eq_left (by omega), show (128 : Nat) = 2 ^ 7 from rfl, ← Nat.pow_mul] at hl
  rw [orV _ _ x hl (by omega), take_valB hx]
theorem ok_take {b : List UInt8} {k : Nat} {x : UInt8} (hx : b[k]? = some x) (h : ∀ y ∈ b.take k, 128 ≤ y.toNat) (hc : x.toNat < 128) (hz : k = 0 ∨ x.toNat ≠ 0) : b.take (k + 1) = numB (valB (b.take (k + 1))) := by
  rw [take_succ hx, numB_val _ _ h hc]
  rcases hz with rfl | hz
  · exact .inl (by simp)
  · exact .inr (by rintro rfl; exact hz rfl)
theorem take_most (b : List UInt8) (k : Nat) (hk : k ≤ 5) : valB (b.take k) ≤ 34359738368 := by
  have h1 := valB_lt (b.take k)
  have h2 : 128 ^ (b.take k).length ≤ 128 ^ 5 := Nat.pow_le_pow_right (by omega) (by rw [List.length_take]; omega)
  omega
theorem take_ex (b : List UInt8) (hb : b.length ≤ 100000) : ∃ p : Nat × Nat × NE, X.call 48 [.tree (b.map encB)] [] ⟨.tuple [.int .i64 p.1, .int .i64 p.2.1, encNE p.2.2], [], []⟩ ∧ (p.2.2 = .ok → b.take p.2.1 = numB p.1 ∧ 0 < p.2.1 ∧ p.2.1 ≤ b.length) ∧ (p.2.2 ≠ .ok → p.1 = 0 ∧ p.2.1 = 0 ∧ ∀ v rest, v ≤ 1000000000 → b ≠ numB v ++ rest) ∧ p.1 ≤ 34359738368 ∧ p.2.1 ≤ b.length := by
  refine spec_ex ok Go.Proofs.Tryz.func48 ok48 ?_
  refine ?_
  refine SatE.pLoop 1 (St.mk [((0 : Nat), AV.tree (List.map encB b)), ((2 : Nat), AV.int IntKind.i64 (0 : Int)), ((3 : Nat), AV.int IntKind.i64 (0 : Int))] []) (by kernel_rfl) (fun (k : Nat) => ⟨[(0, .tree (b.map encB)), (2, .int .i64 (valB (b.take k))), (3, .int .i64 k)], []⟩) (fun k => k ≤ 5 ∧ k ≤ b.length ∧ ∀ x ∈ b.take k, 128 ≤ x.toNat) (fun k => 5 - k) 0 rfl ?_ ?_
  · exact ⟨by omega, by omega, by simp⟩
  · intro k hI again
    have i1 := hI.1
    have i2 := hI.2.1
    have i3 := hI.2.2
    clear hI
    have hv := valB_lt (b.take k)
    rw [List.length_take, Nat.min_eq_left i2] at hv
    rcases (by omega : k = 0 ∨ k = 1 ∨ k = 2 ∨ k = 3 ∨ k = 4 ∨ k = 5) with rfl | rfl | rfl | rfl | rfl | rfl
    · refine (SatE.pNodeT true (by kernel_rfl) rfl (SatE.pIfE ((↑(List.map encB b).length : Int) ≤ (0 : Int)) (b.length ≤ (0 : Nat)) (by kernel_rfl) (by simp only [List.length_map, icLe]) (fun _h8 =>
       (SatE.pRet (Res.mk (AV.tuple [AV.int IntKind.i64 (0 : Int), AV.int IntKind.i64 (0 : Int), AV.iface (121 : Nat) (AV.agg [AV.iface (115 : Nat) (AV.agg [])])]) [] []) (by kernel_rfl) ?_)) (fun _h8 =>
       (SatE.pNodeT true (by kernel_rfl) rfl (SatE.pElemM (encB) (b) (List.map encB b) ((0 : Nat)) (by kernel_rfl) rfl (by omega) (fun _x9 _hx10 =>
       (have _w11 : IntKind.i64.wrap ((7 : Int) * (0 : Int)) = (7 : Int) * (0 : Int) := wI64 (by omega) (by omega); (SatE.pNodeT true (by kernel_rfl) rfl (SatE.pNodeT true (by kernel_rfl) rfl
       (SatE.pElemH (encB) (b) (List.map encB b) ((0 : Nat)) ((0 : Nat)) (_x9) (by kernel_rfl) rfl rfl _hx10 (have _u12 : _x9.toNat < (256 : Nat) := UInt8.toNat_lt _;
       (SatE.pIfE ((128 : Int) ≤ (↑_x9.toNat : Int)) ((128 : Nat) ≤ _x9.toNat) (by kernel_rfl) (by simp only [ciLe]) (fun _h13 =>
       (have _w14 : IntKind.u8.wrap (↑(BitVec.ofInt (8 : Nat) (↑_x9.toNat : Int) &&& BitVec.ofInt (8 : Nat) (127 : Int)).toNat : Int) = (↑(BitVec.ofInt (8 : Nat) (↑_x9.toNat : Int) &&& BitVec.ofInt (8 : Nat) (127 : Int)).toNat : Int) := wU8 (by omega) (by omega);
       (have _w15 : IntKind.i64.wrap (↑(BitVec.ofInt (8 : Nat) (↑_x9.toNat : Int) &&& BitVec.ofInt (8 : Nat) (127 : Int)).toNat : Int) = (↑(BitVec.ofInt (8 : Nat) (↑_x9.toNat : Int) &&& BitVec.ofInt (8 : Nat) (127 : Int)).toNat : Int) := wI64 (by omega) (by omega);
       (have _w16 : IntKind.i64.wrap ((↑(BitVec.ofInt (8 : Nat) (↑_x9.toNat : Int) &&& BitVec.ofInt (8 : Nat) (127 : Int)).toNat : Int) * (2 : Int) ^ (0 : Nat)) = (↑(BitVec.ofInt (8 : Nat) (↑_x9.toNat : Int) &&& BitVec.ofInt (8 : Nat) (127 : Int)).toNat : Int) * (2 : Int) ^ (0 : Nat) := wI64 (by omega) (by omega);
       (have _w17 : IntKind.i64.wrap ((0 : Int) + (1 : Int)) = (0 : Int) + (1 : Int) := wI64 (by omega) (by omega);
       (SatE.pAgainE (St.mk [((0 : Nat), AV.tree (List.map encB b)), ((2 : Nat), AV.int IntKind.i64 (IntKind.i64.wrap (↑(BitVec.ofInt (64 : Nat) (↑(valB (List.take (0 : Nat) b)) : Int) ||| BitVec.ofInt (64 : Nat) (IntKind.i64.wrap (IntKind.i64.wrap (IntKind.u8.wrap (↑(BitVec.ofInt (8 : Nat) (↑_x9.toNat : Int) &&& BitVec.ofInt (8 : Nat) (127 : Int)).toNat : Int)) * (2 : Int) ^ (0 : Nat)))).toNat : Int))), ((3 : Nat), AV.int IntKind.i64 (IntKind.i64.wrap ((0 : Int) + (1 : Int))))] []) (by kernel_rfl) (by (clear again; (rw [vstep (k := 0) (e := 0) (by assumption) (by omega) rfl]; rfl))) (again ((0 : Nat) + (1 : Nat)) ⟨(by show (1 : Nat) ≤ (5 : Nat); omega), ⟨(by show (1 : Nat) ≤ b.length; omega), (by show ∀ (x : UInt8), x ∈ List.take (1 : Nat) b → (128 : Nat) ≤ x.toNat; (clear again; (intro y hy; rw [take_succ (by assumption)] at hy; rcases List.mem_append.1 hy with hy | hy; exact i3 y hy; rw [List.mem_singleton.1 hy]; omega)))⟩⟩ (by show (4 : Nat) < (5 : Nat); omega))))))))
       (fun _h13 => (SatE.pNodeF false (by kernel_rfl) rfl (SatE.pNodeF false (by kernel_rfl) rfl (SatE.pNodeF false (by kernel_rfl) rfl (SatE.pNodeF false (by kernel_rfl) rfl
       (SatE.pNodeF false (by kernel_rfl) rfl (SatE.pNodeF false (by kernel_rfl) rfl (SatE.pNodeF false (by kernel_rfl) rfl
       (have _w18 : IntKind.u8.wrap (↑(BitVec.ofInt (8 : Nat) (↑_x9.toNat : Int) &&& BitVec.ofInt (8 : Nat) (127 : Int)).toNat : Int) = (↑(BitVec.ofInt (8 : Nat) (↑_x9.toNat : Int) &&& BitVec.ofInt (8 : Nat) (127 : Int)).toNat : Int) := wU8 (by omega) (by omega);
       (have _w19 : IntKind.i64.wrap (↑(BitVec.ofInt (8 : Nat) (↑_x9.toNat : Int) &&& BitVec.ofInt (8 : Nat) (127 : Int)).toNat : Int) = (↑(BitVec.ofInt (8 : Nat) (↑_x9.toNat : Int) &&& BitVec.ofInt (8 : Nat) (127 : Int)).toNat : Int) := wI64 (by omega) (by omega);
       (have _w20 : IntKind.i64.wrap ((↑(BitVec.ofInt (8 : Nat) (↑_x9.toNat : Int) &&& BitVec.ofInt (8 : Nat) (127 : Int)).toNat : Int) * (2 : Int) ^ (0 : Nat)) = (↑(BitVec.ofInt (8 : Nat) (↑_x9.toNat : Int) &&& BitVec.ofInt (8 : Nat) (127 : Int)).toNat : Int) * (2 : Int) ^ (0 : Nat) := wI64 (by omega) (by omega);
       (have _w21 : IntKind.i64.wrap ((0 : Int) + (1 : Int)) = (0 : Int) + (1 : Int) := wI64 (by omega) (by omega);
       (SatE.pRet (Res.mk (AV.tuple [AV.int IntKind.i64 (IntKind.i64.wrap (↑(BitVec.ofInt (64 : Nat) (↑(valB (List.take (0 : Nat) b)) : Int) ||| BitVec.ofInt (64 : Nat) (IntKind.i64.wrap (IntKind.i64.wrap (IntKind.u8.wrap (↑(BitVec.ofInt (8 : Nat) (↑_x9.toNat : Int) &&& BitVec.ofInt (8 : Nat) (127 : Int)).toNat : Int)) * (2 : Int) ^ (0 : Nat)))).toNat : Int)), AV.int IntKind.i64 (IntKind.i64.wrap ((0 : Int) + (1 : Int))), AV.nili]) [] []) (by kernel_rfl) ?_)))))))))))))))))))))))))
      · exact ⟨(0, 0, .short), rfl, by simp, fun _ => ⟨rfl, rfl, fun v rest _ => fail_short i3 (by omega) v rest⟩, by simp, by simp⟩
      · exact ⟨(valB (b.take (0 + 1)), 0 + 1, .ok), by rw [vstep (k := 0) (e := 0) (by assumption) (by omega) rfl]; rfl, fun _ => ⟨ok_take (by assumption) i3 (by omega) (by omega), by simp, by simp only; omega⟩, by simp, take_most b _ (by omega), by simp only; omega⟩
    · refine (SatE.pNodeT true (by kernel_rfl) rfl (SatE.pIfE ((↑(List.map encB b).length : Int) ≤ (1 : Int)) (b.length ≤ (1 : Nat)) (by kernel_rfl) (by simp only [List.length_map, icLe]) (fun _h8 =>
       (SatE.pRet (Res.mk (AV.tuple [AV.int IntKind.i64 (0 : Int), AV.int IntKind.i64 (0 : Int), AV.iface (121 : Nat) (AV.agg [AV.iface (115 : Nat) (AV.agg [])])]) [] []) (by kernel_rfl) ?_)) (fun _h8 =>
       (SatE.pNodeT true (by kernel_rfl) rfl (SatE.pElemM (encB) (b) (List.map encB b) ((1 : Nat)) (by kernel_rfl) rfl (by omega) (fun _x9 _hx10 =>
       (have _w11 : IntKind.i64.wrap ((7 : Int) * (1 : Int)) = (7 : Int) * (1 : Int) := wI64 (by omega) (by omega); (SatE.pNodeT true (by kernel_rfl) rfl (SatE.pNodeT true (by kernel_rfl) rfl
       (SatE.pElemH (encB) (b) (List.map encB b) ((1 : Nat)) ((1 : Nat)) (_x9) (by kernel_rfl) rfl rfl _hx10 (have _u12 : _x9.toNat < (256 : Nat) := UInt8.toNat_lt _;
       (SatE.pIfE ((128 : Int) ≤ (↑_x9.toNat : Int)) ((128 : Nat) ≤ _x9.toNat) (by kernel_rfl) (by simp only [ciLe]) (fun _h13 =>
       (have _w14 : IntKind.u8.wrap (↑(BitVec.ofInt (8 : Nat) (↑_x9.toNat : Int) &&& BitVec.ofInt (8 : Nat) (127 : Int)).toNat : Int) = (↑(BitVec.ofInt (8 : Nat) (↑_x9.toNat : Int) &&& BitVec.ofInt (8 : Nat) (127 : Int)).toNat : Int) := wU8 (by omega) (by omega);
       (have _w15 : IntKind.i64.wrap (↑(BitVec.ofInt (8 : Nat) (↑_x9.toNat : Int) &&& BitVec.ofInt (8 : Nat) (127 : Int)).toNat : Int) = (↑(BitVec.ofInt (8 : Nat) (↑_x9.toNat : Int) &&& BitVec.ofInt (8 : Nat) (127 : Int)).toNat : Int) := wI64 (by omega) (by omega);
       (have _w16 : IntKind.i64.wrap ((↑(BitVec.ofInt (8 : Nat) (↑_x9.toNat : Int) &&& BitVec.ofInt (8 : Nat) (127 : Int)).toNat : Int) * (2 : Int) ^ (7 : Nat)) = (↑(BitVec.ofInt (8 : Nat) (↑_x9.toNat : Int) &&& BitVec.ofInt (8 : Nat) (127 : Int)).toNat : Int) * (2 : Int) ^ (7 : Nat) := wI64 (by omega) (by omega);
       (have _w17 : IntKind.i64.wrap ((1 : Int) + (1 : Int)) = (1 : Int) + (1 : Int) := wI64 (by omega) (by omega);
       (SatE.pAgainE (St.mk [((0 : Nat), AV.tree (List.map encB b)), ((2 : Nat), AV.int IntKind.i64 (IntKind.i64.wrap (↑(BitVec.ofInt (64 : Nat) (↑(valB (List.take (1 : Nat) b)) : Int) ||| BitVec.ofInt (64 : Nat) (IntKind.i64.wrap (IntKind.i64.wrap (IntKind.u8.wrap (↑(BitVec.ofInt (8 : Nat) (↑_x9.toNat : Int) &&& BitVec.ofInt (8 : Nat) (127 : Int)).toNat : Int)) * (2 : Int) ^ (7 : Nat)))).toNat : Int))), ((3 : Nat), AV.int IntKind.i64 (IntKind.i64.wrap ((1 : Int) + (1 : Int))))] []) (by kernel_rfl) (by (clear again; (rw [vstep (k := 1) (e := 7) (by assumption) (by omega) rfl]; rfl))) (again ((1 : Nat) + (1 : Nat)) ⟨(by show (2 : Nat) ≤ (5 : Nat); omega), ⟨(by show (2 : Nat) ≤ b.length; omega), (by show ∀ (x : UInt8), x ∈ List.take (2 : Nat) b → (128 : Nat) ≤ x.toNat; (clear again; (intro y hy; rw [take_succ (by assumption)] at hy; rcases List.mem_append.1 hy with hy | hy; exact i3 y hy; rw [List.mem_singleton.1 hy]; omega)))⟩⟩ (by show (3 : Nat) < (4 : Nat); omega))))))))
       (fun _h13 => (SatE.pNodeT true (by kernel_rfl) rfl (SatE.pNodeT true (by kernel_rfl) rfl (SatE.pNodeT true (by kernel_rfl) rfl (SatE.pNodeT true (by kernel_rfl) rfl
       (SatE.pElemH (encB) (b) (List.map encB b) ((1 : Nat)) ((1 : Nat)) (_x9) (by kernel_rfl) rfl rfl _hx10 (SatE.pNodeT true (by kernel_rfl) rfl (SatE.pNodeT true (by kernel_rfl) rfl
       (SatE.pNodeT true (by kernel_rfl) rfl (SatE.pIfE ((↑_x9.toNat : Int) = (0 : Int)) (_x9.toNat = (0 : Nat)) (by kernel_rfl) (by simp only [icEq]) (fun _h18 =>
       (SatE.pRet (Res.mk (AV.tuple [AV.int IntKind.i64 (0 : Int), AV.int IntKind.i64 (0 : Int), AV.iface (121 : Nat) (AV.agg [AV.iface (116 : Nat) (AV.agg [])])]) [] []) (by kernel_rfl) ?_)) (fun _h18 =>
       (have _w19 : IntKind.u8.wrap (↑(BitVec.ofInt (8 : Nat) (↑_x9.toNat : Int) &&& BitVec.ofInt (8 : Nat) (127 : Int)).toNat : Int) = (↑(BitVec.ofInt (8 : Nat) (↑_x9.toNat : Int) &&& BitVec.ofInt (8 : Nat) (127 : Int)).toNat : Int) := wU8 (by omega) (by omega);
       (have _w20 : IntKind.i64.wrap (↑(BitVec.ofInt (8 : Nat) (↑_x9.toNat : Int) &&& BitVec.ofInt (8 : Nat) (127 : Int)).toNat : Int) = (↑(BitVec.ofInt (8 : Nat) (↑_x9.toNat : Int) &&& BitVec.ofInt (8 : Nat) (127 : Int)).toNat : Int) := wI64 (by omega) (by omega);
       (have _w21 : IntKind.i64.wrap ((↑(BitVec.ofInt (8 : Nat) (↑_x9.toNat : Int) &&& BitVec.ofInt (8 : Nat) (127 : Int)).toNat : Int) * (2 : Int) ^ (7 : Nat)) = (↑(BitVec.ofInt (8 : Nat) (↑_x9.toNat : Int) &&& BitVec.ofInt (8 : Nat) (127 : Int)).toNat : Int) * (2 : Int) ^ (7 : Nat) := wI64 (by omega) (by omega);
       (have _w22 : IntKind.i64.wrap ((1 : Int) + (1 : Int)) = (1 : Int) + (1 : Int) := wI64 (by omega) (by omega);
       (SatE.pRet (Res.mk (AV.tuple [AV.int IntKind.i64 (IntKind.i64.wrap (↑(BitVec.ofInt (64 : Nat) (↑(valB (List.take (1 : Nat) b)) : Int) ||| BitVec.ofInt (64 : Nat) (IntKind.i64.wrap (IntKind.i64.wrap (IntKind.u8.wrap (↑(BitVec.ofInt (8 : Nat) (↑_x9.toNat : Int) &&& BitVec.ofInt (8 : Nat) (127 : Int)).toNat : Int)) * (2 : Int) ^ (7 : Nat)))).toNat : Int)), AV.int IntKind.i64 (IntKind.i64.wrap ((1 : Int) + (1 : Int))), AV.nili]) [] []) (by kernel_rfl) ?_))))))))))))))))))))))))))))
      · exact ⟨(0, 0, .short), rfl, by simp, fun _ => ⟨rfl, rfl, fun v rest _ => fail_short i3 (by omega) v rest⟩, by simp, by simp⟩
      · exact ⟨(0, 0, .odd), rfl, by simp, fun _ => ⟨rfl, rfl, fun v rest _ => fail_odd i3 (by assumption) (by omega) (by omega) v rest⟩, by simp, by simp⟩
      · exact ⟨(valB (b.take (1 + 1)), 1 + 1, .ok), by rw [vstep (k := 1) (e := 7) (by assumption) (by omega) rfl]; rfl, fun _ => ⟨ok_take (by assumption) i3 (by omega) (by omega), by simp, by simp only; omega⟩, by simp, take_most b _ (by omega), by simp only; omega⟩
    · refine (SatE.pNodeT true (by kernel_rfl) rfl (SatE.pIfE ((↑(List.map encB b).length : Int) ≤ (2 : Int)) (b.length ≤ (2 : Nat)) (by kernel_rfl) (by simp only [List.length_map, icLe]) (fun _h8 =>
       (SatE.pRet (Res.mk (AV.tuple [AV.int IntKind.i64 (0 : Int), AV.int IntKind.i64 (0 : Int), AV.iface (121 : Nat) (AV.agg [AV.iface (115 : Nat) (AV.agg [])])]) [] []) (by kernel_rfl) ?_)) (fun _h8 =>
       (SatE.pNodeT true (by kernel_rfl) rfl (SatE.pElemM (encB) (b) (List.map encB b) ((2 : Nat)) (by kernel_rfl) rfl (by omega) (fun _x9 _hx10 =>
       (have _w11 : IntKind.i64.wrap ((7 : Int) * (2 : Int)) = (7 : Int) * (2 : Int) := wI64 (by omega) (by omega); (SatE.pNodeT true (by kernel_rfl) rfl (SatE.pNodeT true (by kernel_rfl) rfl
       (SatE.pElemH (encB) (b) (List.map encB b) ((2 : Nat)) ((2 : Nat)) (_x9) (by kernel_rfl) rfl rfl _hx10 (have _u12 : _x9.toNat < (256 : Nat) := UInt8.toNat_lt _;
       (SatE.pIfE ((128 : Int) ≤ (↑_x9.toNat : Int)) ((128 : Nat) ≤ _x9.toNat) (by kernel_rfl) (by simp only [ciLe]) (fun _h13 =>
       (have _w14 : IntKind.u8.wrap (↑(BitVec.ofInt (8 : Nat) (↑_x9.toNat : Int) &&& BitVec.ofInt (8 : Nat) (127 : Int)).toNat : Int) = (↑(BitVec.ofInt (8 : Nat) (↑_x9.toNat : Int) &&& BitVec.ofInt (8 : Nat) (127 : Int)).toNat : Int) := wU8 (by omega) (by omega);
       (have _w15 : IntKind.i64.wrap (↑(BitVec.ofInt (8 : Nat) (↑_x9.toNat : Int) &&& BitVec.ofInt (8 : Nat) (127 : Int)).toNat : Int) = (↑(BitVec.ofInt (8 : Nat) (↑_x9.toNat : Int) &&& BitVec.ofInt (8 : Nat) (127 : Int)).toNat : Int) := wI64 (by omega) (by omega);
       (have _w16 : IntKind.i64.wrap ((↑(BitVec.ofInt (8 : Nat) (↑_x9.toNat : Int) &&& BitVec.ofInt (8 : Nat) (127 : Int)).toNat : Int) * (2 : Int) ^ (14 : Nat)) = (↑(BitVec.ofInt (8 : Nat) (↑_x9.toNat : Int) &&& BitVec.ofInt (8 : Nat) (127 : Int)).toNat : Int) * (2 : Int) ^ (14 : Nat) := wI64 (by omega) (by omega);
       (have _w17 : IntKind.i64.wrap ((2 : Int) + (1 : Int)) = (2 : Int) + (1 : Int) := wI64 (by omega) (by omega);
       (SatE.pAgainE (St.mk [((0 : Nat), AV.tree (List.map encB b)), ((2 : Nat), AV.int IntKind.i64 (IntKind.i64.wrap (↑(BitVec.ofInt (64 : Nat) (↑(valB (List.take (2 : Nat) b)) : Int) ||| BitVec.ofInt (64 : Nat) (IntKind.i64.wrap (IntKind.i64.wrap (IntKind.u8.wrap (↑(BitVec.ofInt (8 : Nat) (↑_x9.toNat : Int) &&& BitVec.ofInt (8 : Nat) (127 : Int)).toNat : Int)) * (2 : Int) ^ (14 : Nat)))).toNat : Int))), ((3 : Nat), AV.int IntKind.i64 (IntKind.i64.wrap ((2 : Int) + (1 : Int))))] []) (by kernel_rfl) (by (clear again; (rw [vstep (k := 2) (e := 14) (by assumption) (by omega) rfl]; rfl))) (again ((2 : Nat) + (1 : Nat)) ⟨(by show (3 : Nat) ≤ (5 : Nat); omega), ⟨(by show (3 : Nat) ≤ b.length; omega), (by show ∀ (x : UInt8), x ∈ List.take (3 : Nat) b → (128 : Nat) ≤ x.toNat; (clear again; (intro y hy; rw [take_succ (by assumption)] at hy; rcases List.mem_append.1 hy with hy | hy; exact i3 y hy; rw [List.mem_singleton.1 hy]; omega)))⟩⟩ (by show (2 : Nat) < (3 : Nat); omega))))))))
       (fun _h13 => (SatE.pNodeT true (by kernel_rfl) rfl (SatE.pNodeT true (by kernel_rfl) rfl (SatE.pNodeT true (by kernel_rfl) rfl (SatE.pNodeT true (by kernel_rfl) rfl
       (SatE.pElemH (encB) (b) (List.map encB b) ((2 : Nat)) ((2 : Nat)) (_x9) (by kernel_rfl) rfl rfl _hx10 (SatE.pNodeT true (by kernel_rfl) rfl (SatE.pNodeT true (by kernel_rfl) rfl
       (SatE.pNodeT true (by kernel_rfl) rfl (SatE.pIfE ((↑_x9.toNat : Int) = (0 : Int)) (_x9.toNat = (0 : Nat)) (by kernel_rfl) (by simp only [icEq]) (fun _h18 =>
       (SatE.pRet (Res.mk (AV.tuple [AV.int IntKind.i64 (0 : Int), AV.int IntKind.i64 (0 : Int), AV.iface (121 : Nat) (AV.agg [AV.iface (116 : Nat) (AV.agg [])])]) [] []) (by kernel_rfl) ?_)) (fun _h18 =>
       (have _w19 : IntKind.u8.wrap (↑(BitVec.ofInt (8 : Nat) (↑_x9.toNat : Int) &&& BitVec.ofInt (8 : Nat) (127 : Int)).toNat : Int) = (↑(BitVec.ofInt (8 : Nat) (↑_x9.toNat : Int) &&& BitVec.ofInt (8 : Nat) (127 : Int)).toNat : Int) := wU8 (by omega) (by omega);
       (have _w20 : IntKind.i64.wrap (↑(BitVec.ofInt (8 : Nat) (↑_x9.toNat : Int) &&& BitVec.ofInt (8 : Nat) (127 : Int)).toNat : Int) = (↑(BitVec.ofInt (8 : Nat) (↑_x9.toNat : Int) &&& BitVec.ofInt (8 : Nat) (127 : Int)).toNat : Int) := wI64 (by omega) (by omega);
       (have _w21 : IntKind.i64.wrap ((↑(BitVec.ofInt (8 : Nat) (↑_x9.toNat : Int) &&& BitVec.ofInt (8 : Nat) (127 : Int)).toNat : Int) * (2 : Int) ^ (14 : Nat)) = (↑(BitVec.ofInt (8 : Nat) (↑_x9.toNat : Int) &&& BitVec.ofInt (8 : Nat) (127 : Int)).toNat : Int) * (2 : Int) ^ (14 : Nat) := wI64 (by omega) (by omega);
       (have _w22 : IntKind.i64.wrap ((2 : Int) + (1 : Int)) = (2 : Int) + (1 : Int) := wI64 (by omega) (by omega);
       (SatE.pRet (Res.mk (AV.tuple [AV.int IntKind.i64 (IntKind.i64.wrap (↑(BitVec.ofInt (64 : Nat) (↑(valB (List.take (2 : Nat) b)) : Int) ||| BitVec.ofInt (64 : Nat) (IntKind.i64.wrap (IntKind.i64.wrap (IntKind.u8.wrap (↑(BitVec.ofInt (8 : Nat) (↑_x9.toNat : Int) &&& BitVec.ofInt (8 : Nat) (127 : Int)).toNat : Int)) * (2 : Int) ^ (14 : Nat)))).toNat : Int)), AV.int IntKind.i64 (IntKind.i64.wrap ((2 : Int) + (1 : Int))), AV.nili]) [] []) (by kernel_rfl) ?_))))))))))))))))))))))))))))
      · exact ⟨(0, 0, .short), rfl, by simp, fun _ => ⟨rfl, rfl, fun v rest _ => fail_short i3 (by omega) v rest⟩, by simp, by simp⟩
      · exact ⟨(0, 0, .odd), rfl, by simp, fun _ => ⟨rfl, rfl, fun v rest _ => fail_odd i3 (by assumption) (by omega) (by omega) v rest⟩, by simp, by simp⟩
      · exact ⟨(valB (b.take (2 + 1)), 2 + 1, .ok), by rw [vstep (k := 2) (e := 14) (by assumption) (by omega) rfl]; rfl, fun _ => ⟨ok_take (by assumption) i3 (by omega) (by omega), by simp, by simp only; omega⟩, by simp, take_most b _ (by omega), by simp only; omega⟩
    · refine (SatE.pNodeT true (by kernel_rfl) rfl (SatE.pIfE ((↑(List.map encB b).length : Int) ≤ (3 : Int)) (b.length ≤ (3 : Nat)) (by kernel_rfl) (by simp only [List.length_map, icLe]) (fun _h8 =>
       (SatE.pRet (Res.mk (AV.tuple [AV.int IntKind.i64 (0 : Int), AV.int IntKind.i64 (0 : Int), AV.iface (121 : Nat) (AV.agg [AV.iface (115 : Nat) (AV.agg [])])]) [] []) (by kernel_rfl) ?_)) (fun _h8 =>
       (SatE.pNodeT true (by kernel_rfl) rfl (SatE.pElemM (encB) (b) (List.map encB b) ((3 : Nat)) (by kernel_rfl) rfl (by omega) (fun _x9 _hx10 =>
       (have _w11 : IntKind.i64.wrap ((7 : Int) * (3 : Int)) = (7 : Int) * (3 : Int) := wI64 (by omega) (by omega); (SatE.pNodeT true (by kernel_rfl) rfl (SatE.pNodeT true (by kernel_rfl) rfl
       (SatE.pElemH (encB) (b) (List.map encB b) ((3 : Nat)) ((3 : Nat)) (_x9) (by kernel_rfl) rfl rfl _hx10 (have _u12 : _x9.toNat < (256 : Nat) := UInt8.toNat_lt _;
       (SatE.pIfE ((128 : Int) ≤ (↑_x9.toNat : Int)) ((128 : Nat) ≤ _x9.toNat) (by kernel_rfl) (by simp only [ciLe]) (fun _h13 =>
       (have _w14 : IntKind.u8.wrap (↑(BitVec.ofInt (8 : Nat) (↑_x9.toNat : Int) &&& BitVec.ofInt (8 : Nat) (127 : Int)).toNat : Int) = (↑(BitVec.ofInt (8 : Nat) (↑_x9.toNat : Int) &&& BitVec.ofInt (8 : Nat) (127 : Int)).toNat : Int) := wU8 (by omega) (by omega);
       (have _w15 : IntKind.i64.wrap (↑(BitVec.ofInt (8 : Nat) (↑_x9.toNat : Int) &&& BitVec.ofInt (8 : Nat) (127 : Int)).toNat : Int) = (↑(BitVec.ofInt (8 : Nat) (↑_x9.toNat : Int) &&& BitVec.ofInt (8 : Nat) (127 : Int)).toNat : Int) := wI64 (by omega) (by omega);
       (have _w16 : IntKind.i64.wrap ((↑(BitVec.ofInt (8 : Nat) (↑_x9.toNat : Int) &&& BitVec.ofInt (8 : Nat) (127 : Int)).toNat : Int) * (2 : Int) ^ (21 : Nat)) = (↑(BitVec.ofInt (8 : Nat) (↑_x9.toNat : Int) &&& BitVec.ofInt (8 : Nat) (127 : Int)).toNat : Int) * (2 : Int) ^ (21 : Nat) := wI64 (by omega) (by omega);
       (have _w17 : IntKind.i64.wrap ((3 : Int) + (1 : Int)) = (3 : Int) + (1 : Int) := wI64 (by omega) (by omega);
       (SatE.pAgainE (St.mk [((0 : Nat), AV.tree (List.map encB b)), ((2 : Nat), AV.int IntKind.i64 (IntKind.i64.wrap (↑(BitVec.ofInt (64 : Nat) (↑(valB (List.take (3 : Nat) b)) : Int) ||| BitVec.ofInt (64 : Nat) (IntKind.i64.wrap (IntKind.i64.wrap (IntKind.u8.wrap (↑(BitVec.ofInt (8 : Nat) (↑_x9.toNat : Int) &&& BitVec.ofInt (8 : Nat) (127 : Int)).toNat : Int)) * (2 : Int) ^ (21 : Nat)))).toNat : Int))), ((3 : Nat), AV.int IntKind.i64 (IntKind.i64.wrap ((3 : Int) + (1 : Int))))] []) (by kernel_rfl) (by (clear again; (rw [vstep (k := 3) (e := 21) (by assumption) (by omega) rfl]; rfl))) (again ((3 : Nat) + (1 : Nat)) ⟨(by show (4 : Nat) ≤ (5 : Nat); omega), ⟨(by show (4 : Nat) ≤ b.length; omega), (by show ∀ (x : UInt8), x ∈ List.take (4 : Nat) b → (128 : Nat) ≤ x.toNat; (clear again; (intro y hy; rw [take_succ (by assumption)] at hy; rcases List.mem_append.1 hy with hy | hy; exact i3 y hy; rw [List.mem_singleton.1 hy]; omega)))⟩⟩ (by show (1 : Nat) < (2 : Nat); omega))))))))
       (fun _h13 => (SatE.pNodeT true (by kernel_rfl) rfl (SatE.pNodeT true (by kernel_rfl) rfl (SatE.pNodeT true (by kernel_rfl) rfl (SatE.pNodeT true (by kernel_rfl) rfl
       (SatE.pElemH (encB) (b) (List.map encB b) ((3 : Nat)) ((3 : Nat)) (_x9) (by kernel_rfl) rfl rfl _hx10 (SatE.pNodeT true (by kernel_rfl) rfl (SatE.pNodeT true (by kernel_rfl) rfl
       (SatE.pNodeT true (by kernel_rfl) rfl (SatE.pIfE ((↑_x9.toNat : Int) = (0 : Int)) (_x9.toNat = (0 : Nat)) (by kernel_rfl) (by simp only [icEq]) (fun _h18 =>
       (SatE.pRet (Res.mk (AV.tuple [AV.int IntKind.i64 (0 : Int), AV.int IntKind.i64 (0 : Int), AV.iface (121 : Nat) (AV.agg [AV.iface (116 : Nat) (AV.agg [])])]) [] []) (by kernel_rfl) ?_)) (fun _h18 =>
       (have _w19 : IntKind.u8.wrap (↑(BitVec.ofInt (8 : Nat) (↑_x9.toNat : Int) &&& BitVec.ofInt (8 : Nat) (127 : Int)).toNat : Int) = (↑(BitVec.ofInt (8 : Nat) (↑_x9.toNat : Int) &&& BitVec.ofInt (8 : Nat) (127 : Int)).toNat : Int) := wU8 (by omega) (by omega);
       (have _w20 : IntKind.i64.wrap (↑(BitVec.ofInt (8 : Nat) (↑_x9.toNat : Int) &&& BitVec.ofInt (8 : Nat) (127 : Int)).toNat : Int) = (↑(BitVec.ofInt (8 : Nat) (↑_x9.toNat : Int) &&& BitVec.ofInt (8 : Nat) (127 : Int)).toNat : Int) := wI64 (by omega) (by omega);
       (have _w21 : IntKind.i64.wrap ((↑(BitVec.ofInt (8 : Nat) (↑_x9.toNat : Int) &&& BitVec.ofInt (8 : Nat) (127 : Int)).toNat : Int) * (2 : Int) ^ (21 : Nat)) = (↑(BitVec.ofInt (8 : Nat) (↑_x9.toNat : Int) &&& BitVec.ofInt (8 : Nat) (127 : Int)).toNat : Int) * (2 : Int) ^ (21 : Nat) := wI64 (by omega) (by omega);
       (have _w22 : IntKind.i64.wrap ((3 : Int) + (1 : Int)) = (3 : Int) + (1 : Int) := wI64 (by omega) (by omega);
       (SatE.pRet (Res.mk (AV.tuple [AV.int IntKind.i64 (IntKind.i64.wrap (↑(BitVec.ofInt (64 : Nat) (↑(valB (List.take (3 : Nat) b)) : Int) ||| BitVec.ofInt (64 : Nat) (IntKind.i64.wrap (IntKind.i64.wrap (IntKind.u8.wrap (↑(BitVec.ofInt (8 : Nat) (↑_x9.toNat : Int) &&& BitVec.ofInt (8 : Nat) (127 : Int)).toNat : Int)) * (2 : Int) ^ (21 : Nat)))).toNat : Int)), AV.int IntKind.i64 (IntKind.i64.wrap ((3 : Int) + (1 : Int))), AV.nili]) [] []) (by kernel_rfl) ?_))))))))))))))))))))))))))))
      · exact ⟨(0, 0, .short), rfl, by simp, fun _ => ⟨rfl, rfl, fun v rest _ => fail_short i3 (by omega) v rest⟩, by simp, by simp⟩
      · exact ⟨(0, 0, .odd), rfl, by simp, fun _ => ⟨rfl, rfl, fun v rest _ => fail_odd i3 (by assumption) (by omega) (by omega) v rest⟩, by simp, by simp⟩
      · exact ⟨(valB (b.take (3 + 1)), 3 + 1, .ok), by rw [vstep (k := 3) (e := 21) (by assumption) (by omega) rfl]; rfl, fun _ => ⟨ok_take (by assumption) i3 (by omega) (by omega), by simp, by simp only; omega⟩, by simp, take_most b _ (by omega), by simp only; omega⟩
    · refine (SatE.pNodeT true (by kernel_rfl) rfl (SatE.pIfE ((↑(List.map encB b).length : Int) ≤ (4 : Int)) (b.length ≤ (4 : Nat)) (by kernel_rfl) (by simp only [List.length_map, icLe]) (fun _h8 =>
       (SatE.pRet (Res.mk (AV.tuple [AV.int IntKind.i64 (0 : Int), AV.int IntKind.i64 (0 : Int), AV.iface (121 : Nat) (AV.agg [AV.iface (115 : Nat) (AV.agg [])])]) [] []) (by kernel_rfl) ?_)) (fun _h8 =>
       (SatE.pNodeT true (by kernel_rfl) rfl (SatE.pElemM (encB) (b) (List.map encB b) ((4 : Nat)) (by kernel_rfl) rfl (by omega) (fun _x9 _hx10 =>
       (have _w11 : IntKind.i64.wrap ((7 : Int) * (4 : Int)) = (7 : Int) * (4 : Int) := wI64 (by omega) (by omega); (SatE.pNodeT true (by kernel_rfl) rfl (SatE.pNodeT true (by kernel_rfl) rfl
       (SatE.pElemH (encB) (b) (List.map encB b) ((4 : Nat)) ((4 : Nat)) (_x9) (by kernel_rfl) rfl rfl _hx10 (have _u12 : _x9.toNat < (256 : Nat) := UInt8.toNat_lt _;
       (SatE.pIfE ((128 : Int) ≤ (↑_x9.toNat : Int)) ((128 : Nat) ≤ _x9.toNat) (by kernel_rfl) (by simp only [ciLe]) (fun _h13 =>
       (have _w14 : IntKind.u8.wrap (↑(BitVec.ofInt (8 : Nat) (↑_x9.toNat : Int) &&& BitVec.ofInt (8 : Nat) (127 : Int)).toNat : Int) = (↑(BitVec.ofInt (8 : Nat) (↑_x9.toNat : Int) &&& BitVec.ofInt (8 : Nat) (127 : Int)).toNat : Int) := wU8 (by omega) (by omega);
       (have _w15 : IntKind.i64.wrap (↑(BitVec.ofInt (8 : Nat) (↑_x9.toNat : Int) &&& BitVec.ofInt (8 : Nat) (127 : Int)).toNat : Int) = (↑(BitVec.ofInt (8 : Nat) (↑_x9.toNat : Int) &&& BitVec.ofInt (8 : Nat) (127 : Int)).toNat : Int) := wI64 (by omega) (by omega);
       (have _w16 : IntKind.i64.wrap ((↑(BitVec.ofInt (8 : Nat) (↑_x9.toNat : Int) &&& BitVec.ofInt (8 : Nat) (127 : Int)).toNat : Int) * (2 : Int) ^ (28 : Nat)) = (↑(BitVec.ofInt (8 : Nat) (↑_x9.toNat : Int) &&& BitVec.ofInt (8 : Nat) (127 : Int)).toNat : Int) * (2 : Int) ^ (28 : Nat) := wI64 (by omega) (by omega);
       (have _w17 : IntKind.i64.wrap ((4 : Int) + (1 : Int)) = (4 : Int) + (1 : Int) := wI64 (by omega) (by omega);
       (SatE.pAgainE (St.mk [((0 : Nat), AV.tree (List.map encB b)), ((2 : Nat), AV.int IntKind.i64 (IntKind.i64.wrap (↑(BitVec.ofInt (64 : Nat) (↑(valB (List.take (4 : Nat) b)) : Int) ||| BitVec.ofInt (64 : Nat) (IntKind.i64.wrap (IntKind.i64.wrap (IntKind.u8.wrap (↑(BitVec.ofInt (8 : Nat) (↑_x9.toNat : Int) &&& BitVec.ofInt (8 : Nat) (127 : Int)).toNat : Int)) * (2 : Int) ^ (28 : Nat)))).toNat : Int))), ((3 : Nat), AV.int IntKind.i64 (IntKind.i64.wrap ((4 : Int) + (1 : Int))))] []) (by kernel_rfl) (by (clear again; (rw [vstep (k := 4) (e := 28) (by assumption) (by omega) rfl]; rfl))) (again ((4 : Nat) + (1 : Nat)) ⟨(by show (5 : Nat) ≤ (5 : Nat); omega), ⟨(by show (5 : Nat) ≤ b.length; omega), (by show ∀ (x : UInt8), x ∈ List.take (5 : Nat) b → (128 : Nat) ≤ x.toNat; (clear again; (intro y hy; rw [take_succ (by assumption)] at hy; rcases List.mem_append.1 hy with hy | hy; exact i3 y hy; rw [List.mem_singleton.1 hy]; omega)))⟩⟩ (by show (0 : Nat) < (1 : Nat); omega))))))))
       (fun _h13 => (SatE.pNodeT true (by kernel_rfl) rfl (SatE.pNodeT true (by kernel_rfl) rfl (SatE.pNodeT true (by kernel_rfl) rfl (SatE.pNodeT true (by kernel_rfl) rfl
       (SatE.pElemH (encB) (b) (List.map encB b) ((4 : Nat)) ((4 : Nat)) (_x9) (by kernel_rfl) rfl rfl _hx10 (SatE.pNodeT true (by kernel_rfl) rfl (SatE.pNodeT true (by kernel_rfl) rfl
       (SatE.pNodeT true (by kernel_rfl) rfl (SatE.pIfE ((↑_x9.toNat : Int) = (0 : Int)) (_x9.toNat = (0 : Nat)) (by kernel_rfl) (by simp only [icEq]) (fun _h18 =>
       (SatE.pRet (Res.mk (AV.tuple [AV.int IntKind.i64 (0 : Int), AV.int IntKind.i64 (0 : Int), AV.iface (121 : Nat) (AV.agg [AV.iface (116 : Nat) (AV.agg [])])]) [] []) (by kernel_rfl) ?_)) (fun _h18 =>
       (have _w19 : IntKind.u8.wrap (↑(BitVec.ofInt (8 : Nat) (↑_x9.toNat : Int) &&& BitVec.ofInt (8 : Nat) (127 : Int)).toNat : Int) = (↑(BitVec.ofInt (8 : Nat) (↑_x9.toNat : Int) &&& BitVec.ofInt (8 : Nat) (127 : Int)).toNat : Int) := wU8 (by omega) (by omega);
       (have _w20 : IntKind.i64.wrap (↑(BitVec.ofInt (8 : Nat) (↑_x9.toNat : Int) &&& BitVec.ofInt (8 : Nat) (127 : Int)).toNat : Int) = (↑(BitVec.ofInt (8 : Nat) (↑_x9.toNat : Int) &&& BitVec.ofInt (8 : Nat) (127 : Int)).toNat : Int) := wI64 (by omega) (by omega);
       (have _w21 : IntKind.i64.wrap ((↑(BitVec.ofInt (8 : Nat) (↑_x9.toNat : Int) &&& BitVec.ofInt (8 : Nat) (127 : Int)).toNat : Int) * (2 : Int) ^ (28 : Nat)) = (↑(BitVec.ofInt (8 : Nat) (↑_x9.toNat : Int) &&& BitVec.ofInt (8 : Nat) (127 : Int)).toNat : Int) * (2 : Int) ^ (28 : Nat) := wI64 (by omega) (by omega);
       (have _w22 : IntKind.i64.wrap ((4 : Int) + (1 : Int)) = (4 : Int) + (1 : Int) := wI64 (by omega) (by omega);
       (SatE.pRet (Res.mk (AV.tuple [AV.int IntKind.i64 (IntKind.i64.wrap (↑(BitVec.ofInt (64 : Nat) (↑(valB (List.take (4 : Nat) b)) : Int) ||| BitVec.ofInt (64 : Nat) (IntKind.i64.wrap (IntKind.i64.wrap (IntKind.u8.wrap (↑(BitVec.ofInt (8 : Nat) (↑_x9.toNat : Int) &&& BitVec.ofInt (8 : Nat) (127 : Int)).toNat : Int)) * (2 : Int) ^ (28 : Nat)))).toNat : Int)), AV.int IntKind.i64 (IntKind.i64.wrap ((4 : Int) + (1 : Int))), AV.nili]) [] []) (by kernel_rfl) ?_))))))))))))))))))))))))))))
      · exact ⟨(0, 0, .short), rfl, by simp, fun _ => ⟨rfl, rfl, fun v rest _ => fail_short i3 (by omega) v rest⟩, by simp, by simp⟩
      · exact ⟨(0, 0, .odd), rfl, by simp, fun _ => ⟨rfl, rfl, fun v rest _ => fail_odd i3 (by assumption) (by omega) (by omega) v rest⟩, by simp, by simp⟩
      · exact ⟨(valB (b.take (4 + 1)), 4 + 1, .ok), by rw [vstep (k := 4) (e := 28) (by assumption) (by omega) rfl]; rfl, fun _ => ⟨ok_take (by assumption) i3 (by omega) (by omega), by simp, by simp only; omega⟩, by simp, take_most b _ (by omega), by simp only; omega⟩
    · refine (SatE.pNodeF false (by kernel_rfl) rfl
       (SatE.pRet (Res.mk (AV.tuple [AV.int IntKind.i64 (0 : Int), AV.int IntKind.i64 (0 : Int), AV.iface (121 : Nat) (AV.agg [AV.iface (116 : Nat) (AV.agg [])])]) [] []) (by kernel_rfl) ?_))
      exact ⟨(0, 0, .odd), rfl, by simp, fun _ => ⟨rfl, rfl, fun v rest hv => fail_long i3 v rest hv⟩, by simp, by simp⟩
end Go.Ab.Tryz
