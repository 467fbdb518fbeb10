/- The functions of net, of law 23, as plain Lean. -/
import Derived.Test.YtmppanboolejjaaAbEnc
import Derived.Test.YtmppanboolejjaaHand
namespace Go.Ab.Try
open Go
set_option maxRecDepth 100000
set_option maxHeartbeats 4000000
theorem c19 (l : List Gram) (hl : l.length ≤ 1000) :
    X.call 19 [.tree (l.map encGram)] [] ⟨.sref (.out 0) 0 l.length, [], [.row 4 (l.map encGram) true true]⟩ := by
  refine spec_of ok Go.Proofs.Try.func19 ok19 ?_
  refine (Sat.pNodeE ((List.map encGram l).isEmpty) (l = []) (by kernel_rfl) (by simp only [List.isEmpty_map, List.isEmpty_iff]) (fun _h3 => (Sat.pAmb (by kernel_rfl) (Sat.pNodeT true (by kernel_rfl) rfl
   (Sat.pRet ({ v := AV.sref (Site.out (0 : Nat)) (0 : Nat) (0 : Nat), back := [], out := [Blk.row (4 : Nat) [] Bool.true Bool.true] }) (by kernel_rfl) (by simp_all)))
   (Sat.pNodeF false (by kernel_rfl) rfl (Sat.pEszM (encGram) (l) (List.map encGram l) (4) (by kernel_rfl) rfl (fun _ => rfl)
   (Sat.pIfE (((0 : Nat) + (List.map encGram l).length) * (40 : Nat) ≤ (140737488355328 : Nat)) (((0 : Nat) + l.length) * (40 : Nat) ≤ (140737488355328 : Nat)) (by kernel_rfl) (by simp only [List.length_map])
   (fun _h4 => (Sat.pNodeT true (by kernel_rfl) rfl
   (Sat.pRet ({ v := AV.sref (Site.out (0 : Nat)) (0 : Nat) ((0 : Nat) + (List.map encGram l).length), back := [], out := [Blk.row (4 : Nat) ([] ++ List.map encGram l) Bool.true Bool.true] }) (by kernel_rfl) (by simp_all))))
   (fun _h4 => False.elim (by omega))))))) (fun _h3 => (Sat.pNodeF false (by kernel_rfl) rfl (Sat.pEszM (encGram) (l) (List.map encGram l) (4) (by kernel_rfl) rfl (fun _ => rfl)
   (Sat.pIfE (((0 : Nat) + (List.map encGram l).length) * (40 : Nat) ≤ (140737488355328 : Nat)) (((0 : Nat) + l.length) * (40 : Nat) ≤ (140737488355328 : Nat)) (by kernel_rfl) (by simp only [List.length_map])
   (fun _h5 => (Sat.pNodeT true (by kernel_rfl) rfl
   (Sat.pRet ({ v := AV.sref (Site.out (0 : Nat)) (0 : Nat) ((0 : Nat) + (List.map encGram l).length), back := [], out := [Blk.row (4 : Nat) ([] ++ List.map encGram l) Bool.true Bool.true] }) (by kernel_rfl) (by simp_all))))
   (fun _h5 => False.elim (by omega)))))))
theorem c20 (l : List Gram) (i : Int) : X.call 20 [.tree (l.map encGram), .int .i64 i] [] ⟨.bool (decide (0 ≤ i ∧ i < l.length)), [], []⟩ := by
  refine spec_of ok Go.Proofs.Try.func20 ok20 ?_
  refine (Sat.pIf ((0 : Int) ≤ i) (by kernel_rfl) (fun _h3 => (Sat.pIfET ((0 : Int) ≤ i) ((0 : Int) ≤ i) (by kernel_rfl) Iff.rfl _h3 (Sat.pIfET ((0 : Int) ≤ i) ((0 : Int) ≤ i) (by kernel_rfl) Iff.rfl _h3
   (Sat.pIfET ((0 : Int) ≤ i) ((0 : Int) ≤ i) (by kernel_rfl) Iff.rfl _h3 (Sat.pIfET ((0 : Int) ≤ i) ((0 : Int) ≤ i) (by kernel_rfl) Iff.rfl _h3
   (Sat.pRet ({ v := AV.bool (decide (i < (↑(List.map encGram l).length : Int))), back := [], out := [] }) (by kernel_rfl) (by simp_all))))))) (fun _h3 =>
   (Sat.pIfEF ((0 : Int) ≤ i) ((0 : Int) ≤ i) (by kernel_rfl) Iff.rfl _h3 (Sat.pIfEF ((0 : Int) ≤ i) ((0 : Int) ≤ i) (by kernel_rfl) Iff.rfl _h3
   (Sat.pIfEF ((0 : Int) ≤ i) ((0 : Int) ≤ i) (by kernel_rfl) Iff.rfl _h3 (Sat.pIfEF ((0 : Int) ≤ i) ((0 : Int) ≤ i) (by kernel_rfl) Iff.rfl _h3
   (Sat.pRet ({ v := AV.bool Bool.false, back := [], out := [] }) (by kernel_rfl) (by (simp_all; omega)))))))))
def netSend (l : List Gram) (g : Gram) : List Gram := if 20 ≤ l.length then l else l ++ [g]
theorem c7 (l : List Gram) (g : Gram) (hl : l.length ≤ 20) : X.call 7 [.tree (l.map encGram), encGram g] [] ⟨.tuple [.tree ((netSend l g).map encGram), .bool (decide (l.length < 20))], [], []⟩ := by
  refine spec_of ok Go.Proofs.Try.func7 ok7 ?_
  refine (Sat.pCallE 19 ([AV.tree (List.map encGram l)]) ([]) (by kernel_rfl) rfl rfl (@Go.Ab.Try.c19 (l) (by omega)) (Sat.pIf ((20 : Int) ≤ (↑l.length : Int)) (by kernel_rfl) (fun _h4 =>
   (have _w5 : List.take l.length (List.map encGram l) = List.map encGram l := List.take_of_length_le (by simp);
   (Sat.pRet ({ v := AV.tuple [AV.tree (List.take l.length (List.map encGram l)), AV.bool Bool.false], back := [], out := [] }) (by kernel_rfl) (by grind [netSend])))) (fun _h4 =>
   (Sat.pIf ((l.length + (1 : Nat)) * (40 : Nat) ≤ (140737488355328 : Nat)) (by kernel_rfl) (fun _h6 =>
   (Sat.pIfE (l.length = (List.map encGram l).length) (True) (by kernel_rfl) (by simp only [List.length_map]) (fun _h7 =>
   (have _w8 : List.take (l.length + (1 : Nat)) (List.map encGram l ++ [encGram g]) = List.map encGram l ++ [encGram g] := List.take_of_length_le (by simp);
   (Sat.pRet ({ v := AV.tuple [AV.tree (List.take (l.length + (1 : Nat)) (List.map encGram l ++ [encGram g])), AV.bool Bool.true], back := [], out := [] }) (by kernel_rfl) (by grind [netSend]))))
   (fun _h7 => (_h7 trivial).elim))) (fun _h6 => False.elim (by omega))))))
theorem rowDel_map {T : Type} (enc : T → AV) (z : AV) (l : List T) (i : Nat) (hi : i < l.length) : rowDel z (l.map enc) i (i + 1) = (l.eraseIdx i).map enc ++ [z] := by
  have e : (l.eraseIdx i).map enc = (l.map enc).take i ++ (l.map enc).drop (i + 1) := by rw [List.eraseIdx_eq_take_drop_succ]; simp
  have hn : (l.map enc).length = l.length := by simp
  generalize hx : l.map enc = xs at *
  have hl : i < xs.length := by omega
  rw [e]
  unfold rowDel over
  simp only [List.length_drop, List.length_take, List.length_append, List.length_replicate]
  have h1 : i + (xs.length - (i + 1)) = xs.length - 1 := by omega
  have h2 : i + 1 - i = 1 := by omega
  rw [h1, h2]
  have h3 : (xs.take i ++ xs.drop (i + 1) ++ xs.drop (xs.length - 1)).take (xs.length - 1) = xs.take i ++ xs.drop (i + 1) := by
    rw [List.take_append_of_le_length (by simp; omega), List.take_of_length_le (by simp; omega)]
  rw [h3]
  have h4 : (xs.take i ++ xs.drop (i + 1) ++ xs.drop (xs.length - 1)).drop (xs.length - 1 + 1) = [] := by
    apply List.drop_eq_nil_of_le; simp; omega
  rw [h4]; simp
theorem c21 (l : List Gram) (i : Int) (hi : 0 ≤ i ∧ i < l.length) : X.call 21 [.sref (.inc 0) 0 l.length, .int .i64 i, .int .i64 (i + 1)] [.row 4 (l.map encGram) true true] ⟨.sref (.inc 0) 0 (l.length - 1), [.row 4 ((l.eraseIdx i.toNat).map encGram ++ [encGram ⟨0, 0, [], false⟩]) true true], []⟩ := by
  obtain ⟨n, rfl⟩ := Int.eq_ofNat_of_zero_le hi.1
  have h := delete21 (l.map encGram) n (n + 1) (by omega) (by simp; omega)
  rw [rowDel_map _ _ _ _ (by omega)] at h
  simp only [List.length_map] at h
  rw [show n + 1 - n = 1 by omega] at h
  exact h
def netComes (l : List Gram) (i : Int) : List Gram × Gram × Bool := if 0 ≤ i ∧ i < l.length then (l.eraseIdx i.toNat, l.getD i.toNat ⟨0, 0, [], false⟩, true) else (l, ⟨0, 0, [], false⟩, false)
theorem c8 (l : List Gram) (i : Int) (hl : l.length ≤ 20) : X.call 8 [.tree (l.map encGram), .int .i64 i] [] ⟨.tuple [.tree ((netComes l i).1.map encGram), encGram (netComes l i).2.1, .bool (netComes l i).2.2], [], []⟩ := by
  refine spec_of ok Go.Proofs.Try.func8 ok8 ?_
  refine (Sat.pCallE 19 ([AV.tree (List.map encGram l)]) ([]) (by kernel_rfl) rfl rfl (@Go.Ab.Try.c19 (l) (by omega))
   (have _w4 : List.take l.length (List.map encGram l) = List.map encGram l := List.take_of_length_le (by simp);
   (Sat.pCallE 20 ([AV.tree (List.take l.length (List.map encGram l)), AV.int IntKind.i64 i]) ([]) (by kernel_rfl) (by simp only [_w4]) rfl (@Go.Ab.Try.c20 (l) (i))
   (Sat.pIfN ((0 : Int) ≤ i ∧ i < (↑l.length : Int)) (by kernel_rfl) (fun _h5 =>
   (Sat.pRet ({ v := AV.tuple [AV.tree (List.take l.length (List.map encGram l)), AV.agg [AV.int IntKind.i64 (0 : Int), AV.int IntKind.i64 (0 : Int), AV.str [], AV.bool Bool.false], AV.bool Bool.false], back := [], out := [] }) (by kernel_rfl) (by grind [netComes, encGram])))
   (fun _h5 => (Sat.pIfET ((0 : Int) ≤ i ∧ i < (↑l.length : Int)) ((0 : Int) ≤ i ∧ i < (↑l.length : Int)) (by kernel_rfl) Iff.rfl _h5
   (Sat.pElemM (encGram) (l) (List.map encGram l) (i.toNat) (by kernel_rfl) rfl (by omega) (fun _x6 _hx7 => (have _w8 : IntKind.i64.wrap (i + (1 : Int)) = i + (1 : Int) := wI64 (by omega) (by omega);
   (Sat.pCallE 21 ([AV.sref (Site.inc (0 : Nat)) (0 : Nat) l.length, AV.int IntKind.i64 i, AV.int IntKind.i64 (IntKind.i64.wrap (i + (1 : Int)))]) ([Blk.row (4 : Nat) (List.map encGram l) Bool.true Bool.true]) (by kernel_rfl) (by simp only [_w8]) rfl (@Go.Ab.Try.c21 (l) (i) (by assumption))
   (Sat.pRet ({ v := AV.tuple [AV.tree (List.take (l.length - (1 : Nat)) (List.map encGram (l.eraseIdx i.toNat) ++ [encGram { From := (0 : Int), To := (0 : Int), B := [], Turned := Bool.false }])), AV.agg [AV.int IntKind.i64 _x6.From, AV.int IntKind.i64 _x6.To, AV.str _x6.B, AV.bool _x6.Turned], AV.bool Bool.true], back := [], out := [] }) (by kernel_rfl) (by grind [netComes, encGram]))))))))))))
theorem c9 (l : List Gram) (i : Int) (hl : l.length ≤ 20) : X.call 9 [.tree (l.map encGram), .int .i64 i] [] ⟨.tuple [.tree ((netComes l i).1.map encGram), .bool (netComes l i).2.2], [], []⟩ := by
  refine spec_of ok Go.Proofs.Try.func9 ok9 ?_
  refine (Sat.pCallE 8 ([AV.tree (List.map encGram l), AV.int IntKind.i64 i]) ([]) (by kernel_rfl) rfl rfl (@Go.Ab.Try.c8 (l) (i) (by assumption))
   (Sat.pRet ({ v := AV.tuple [AV.tree (List.map encGram (netComes l i).fst), AV.bool (netComes l i).snd.snd], back := [], out := [] }) (by kernel_rfl) rfl))
def netTwice (l : List Gram) (i : Int) : List Gram := if h : 0 ≤ i ∧ i < l.length then netSend l (l[i.toNat]) else l
theorem c10 (l : List Gram) (i : Int) (hl : l.length ≤ 20) : X.call 10 [.tree (l.map encGram), .int .i64 i] [] ⟨.tuple [.tree ((netTwice l i).map encGram), .bool (decide (0 ≤ i ∧ i < l.length ∧ l.length < 20))], [], []⟩ := by
  refine spec_of ok Go.Proofs.Try.func10 ok10 ?_
  refine (Sat.pCallE 20 ([AV.tree (List.map encGram l), AV.int IntKind.i64 i]) ([]) (by kernel_rfl) rfl rfl (@Go.Ab.Try.c20 (l) (i)) (Sat.pIfN ((0 : Int) ≤ i ∧ i < (↑l.length : Int)) (by kernel_rfl)
   (fun _h4 => (Sat.pCallE 19 ([AV.tree (List.map encGram l)]) ([]) (by kernel_rfl) rfl rfl (@Go.Ab.Try.c19 (l) (by omega))
   (have _w5 : List.take l.length (List.map encGram l) = List.map encGram l := List.take_of_length_le (by simp);
   (Sat.pRet ({ v := AV.tuple [AV.tree (List.take l.length (List.map encGram l)), AV.bool Bool.false], back := [], out := [] }) (by kernel_rfl) (by grind [netTwice]))))) (fun _h4 =>
   (Sat.pIf ((0 : Int) ≤ i) (by kernel_rfl) (fun _h6 => (Sat.pElemM (encGram) (l) (List.map encGram l) (i.toNat) (by kernel_rfl) rfl (by omega) (fun _x7 _hx8 =>
   (Sat.pCallE 7 ([AV.tree (List.map encGram l), AV.agg [AV.int IntKind.i64 _x7.From, AV.int IntKind.i64 _x7.To, AV.str _x7.B, AV.bool _x7.Turned]]) ([]) (by kernel_rfl) rfl rfl (@Go.Ab.Try.c7 (l) (_x7) (by assumption))
   (Sat.pRet ({ v := AV.tuple [AV.tree (List.map encGram (netSend l _x7)), AV.bool (decide (l.length < (20 : Nat)))], back := [], out := [] }) (by kernel_rfl) (by grind [netTwice]))))))
   (fun _h6 => False.elim (by omega))))))
def turnB (b : List UInt8) (to : Int) : List UInt8 := b.set ((to / 256) % b.length).toNat ((b.getD ((to / 256) % b.length).toNat 0) ^^^ UInt8.ofNat (to % 256).toNat)
def netTurned (l : List Gram) (i to : Int) : List Gram × Bool :=
  if h : 0 ≤ i ∧ i < l.length then
    let g := l[i.toNat]
    if g.Turned then (l, false)
    else if g.B = [] ∨ to < 0 ∨ to % 256 = 0 then (l, true)
    else (l.set i.toNat { g with B := turnB g.B to, Turned := true }, true)
  else (l, false)
theorem c11 (l : List Gram) (i to : Int) (hl : l.length ≤ 20) (ht : to < 100000) : X.call 11 [.tree (l.map encGram), .int .i64 i, .int .i64 to] [] ⟨.tuple [.tree ((netTurned l i to).1.map encGram), .bool (netTurned l i to).2], [], []⟩ := by
  refine spec_of ok Go.Proofs.Try.func11 ok11 ?_
  refine (Sat.pCallE 19 ([AV.tree (List.map encGram l)]) ([]) (by kernel_rfl) rfl rfl (@Go.Ab.Try.c19 (l) (by omega))
   (have _w6 : List.take l.length (List.map encGram l) = List.map encGram l := List.take_of_length_le (by simp);
   (Sat.pCallE 20 ([AV.tree (List.take l.length (List.map encGram l)), AV.int IntKind.i64 i]) ([]) (by kernel_rfl) (by simp only [_w6]) rfl (@Go.Ab.Try.c20 (l) (i))
   (Sat.pIfN ((0 : Int) ≤ i ∧ i < (↑l.length : Int)) (by kernel_rfl) (fun _h7 => (Sat.pIfENT ((0 : Int) ≤ i ∧ i < (↑l.length : Int)) ((0 : Int) ≤ i ∧ i < (↑l.length : Int)) (by kernel_rfl) Iff.rfl _h7
   (Sat.pIfENT ((0 : Int) ≤ i ∧ i < (↑l.length : Int)) ((0 : Int) ≤ i ∧ i < (↑l.length : Int)) (by kernel_rfl) Iff.rfl _h7
   (Sat.pIfENT ((0 : Int) ≤ i ∧ i < (↑l.length : Int)) ((0 : Int) ≤ i ∧ i < (↑l.length : Int)) (by kernel_rfl) Iff.rfl _h7
   (Sat.pIfENT ((0 : Int) ≤ i ∧ i < (↑l.length : Int)) ((0 : Int) ≤ i ∧ i < (↑l.length : Int)) (by kernel_rfl) Iff.rfl _h7
   (Sat.pIfENT ((0 : Int) ≤ i ∧ i < (↑l.length : Int)) ((0 : Int) ≤ i ∧ i < (↑l.length : Int)) (by kernel_rfl) Iff.rfl _h7 (Sat.pNodeT true (by kernel_rfl) rfl
   (Sat.pRet ({ v := AV.tuple [AV.tree (List.take l.length (List.map encGram l)), AV.bool Bool.false], back := [], out := [] }) (by kernel_rfl) (by grind [netTurned]))))))))) (fun _h7 =>
   (Sat.pIfENF ((0 : Int) ≤ i ∧ i < (↑l.length : Int)) ((0 : Int) ≤ i ∧ i < (↑l.length : Int)) (by kernel_rfl) Iff.rfl _h7
   (Sat.pIfENF ((0 : Int) ≤ i ∧ i < (↑l.length : Int)) ((0 : Int) ≤ i ∧ i < (↑l.length : Int)) (by kernel_rfl) Iff.rfl _h7
   (Sat.pIfET ((0 : Int) ≤ i ∧ i < (↑l.length : Int)) ((0 : Int) ≤ i ∧ i < (↑l.length : Int)) (by kernel_rfl) Iff.rfl _h7
   (Sat.pIfENF ((0 : Int) ≤ i ∧ i < (↑l.length : Int)) ((0 : Int) ≤ i ∧ i < (↑l.length : Int)) (by kernel_rfl) Iff.rfl _h7
   (Sat.pIfENF ((0 : Int) ≤ i ∧ i < (↑l.length : Int)) ((0 : Int) ≤ i ∧ i < (↑l.length : Int)) (by kernel_rfl) Iff.rfl _h7
   (Sat.pElemM (encGram) (l) (List.map encGram l) (i.toNat) (by kernel_rfl) rfl (by omega) (fun _x8 _hx9 =>
   (Sat.pIfENF ((0 : Int) ≤ i ∧ i < (↑l.length : Int)) ((0 : Int) ≤ i ∧ i < (↑l.length : Int)) (by kernel_rfl) Iff.rfl _h7 (Sat.pNode (_x8.Turned) (by kernel_rfl) (fun _h10 =>
   (Sat.pRet ({ v := AV.tuple [AV.tree (List.take l.length (List.map encGram l)), AV.bool Bool.false], back := [], out := [] }) (by kernel_rfl) (by grind [netTurned]))) (fun _h10 =>
   (Sat.pIfET ((0 : Int) ≤ i ∧ i < (↑l.length : Int)) ((0 : Int) ≤ i ∧ i < (↑l.length : Int)) (by kernel_rfl) Iff.rfl _h7
   (Sat.pElemH (encGram) (l) (List.map encGram l) (i.toNat) (i.toNat) (_x8) (by kernel_rfl) rfl rfl _hx9 (Sat.pIf ((↑_x8.B.length : Int) = (0 : Int)) (by kernel_rfl) (fun _h11 =>
   (Sat.pIfET ((↑_x8.B.length : Int) = (0 : Int)) ((↑_x8.B.length : Int) = (0 : Int)) (by kernel_rfl) Iff.rfl _h11
   (Sat.pIfET ((↑_x8.B.length : Int) = (0 : Int)) ((↑_x8.B.length : Int) = (0 : Int)) (by kernel_rfl) Iff.rfl _h11 (Sat.pNodeT true (by kernel_rfl) rfl
   (Sat.pRet ({ v := AV.tuple [AV.tree (List.take l.length (List.map encGram l)), AV.bool Bool.true], back := [], out := [] }) (by kernel_rfl) (by (simp_all [netTurned]; done))))))) (fun _h11 =>
   (Sat.pIfEF ((↑_x8.B.length : Int) = (0 : Int)) ((↑_x8.B.length : Int) = (0 : Int)) (by kernel_rfl) Iff.rfl _h11
   (Sat.pIfEF ((↑_x8.B.length : Int) = (0 : Int)) ((↑_x8.B.length : Int) = (0 : Int)) (by kernel_rfl) Iff.rfl _h11 (Sat.pIf (to < (0 : Int)) (by kernel_rfl) (fun _h12 =>
   (Sat.pRet ({ v := AV.tuple [AV.tree (List.take l.length (List.map encGram l)), AV.bool Bool.true], back := [], out := [] }) (by kernel_rfl) (by grind [netTurned]))) (fun _h12 =>
   (Sat.pNodeT true (by kernel_rfl) rfl (have _w13 : to.tmod (256 : Int) = to % (256 : Int) := Int.tmod_eq_emod_of_nonneg (by omega);
   (Sat.pIfE (to.tmod (256 : Int) = (0 : Int)) (to % (256 : Int) = (0 : Int)) (by kernel_rfl) (by simp only [_w13]) (fun _h14 =>
   (Sat.pRet ({ v := AV.tuple [AV.tree (List.take l.length (List.map encGram l)), AV.bool Bool.true], back := [], out := [] }) (by kernel_rfl) (by grind [netTurned]))) (fun _h14 =>
   (Sat.pNodeT true (by kernel_rfl) rfl (Sat.pIf ((↑_x8.B.length : Int) ≠ (0 : Int)) (by kernel_rfl) (fun _h15 =>
   (have _w16 : to.tdiv (256 : Int) = to / (256 : Int) := Int.tdiv_eq_ediv_of_nonneg (by omega); (have _w17 : IntKind.i64.wrap (to / (256 : Int)) = to / (256 : Int) := wI64 (by omega) (by omega);
   (have _w18 : (to / (256 : Int)).tmod (↑_x8.B.length : Int) = to / (256 : Int) % (↑_x8.B.length : Int) := Int.tmod_eq_emod_of_nonneg (by omega);
   (have _w19 : (0 : Int) ≤ to / (256 : Int) % (↑_x8.B.length : Int) ∧ to / (256 : Int) % (↑_x8.B.length : Int) < (↑_x8.B.length : Int) := ⟨Int.emod_nonneg _ (by omega), Int.emod_lt_of_pos _ (by omega)⟩;
   (Sat.pIfET ((0 : Int) ≤ (IntKind.i64.wrap (to.tdiv (256 : Int))).tmod (↑_x8.B.length : Int) ∧ (IntKind.i64.wrap (to.tdiv (256 : Int))).tmod (↑_x8.B.length : Int) < (↑_x8.B.length : Int)) ((0 : Int) ≤ to / (256 : Int) % (↑_x8.B.length : Int) ∧ to / (256 : Int) % (↑_x8.B.length : Int) < (↑_x8.B.length : Int)) (by kernel_rfl) (by simp only [_w18, _w17, _w16]) _w19
   (Sat.pElemME (fun (c : UInt8) => AV.int IntKind.u8 (↑c.toNat : Int)) (_x8.B) (List.map
   (fun (c : UInt8) => AV.int IntKind.u8 (↑c.toNat : Int)) _x8.B) (((IntKind.i64.wrap (to.tdiv (256 : Int))).tmod (↑_x8.B.length : Int)).toNat) ((to / (256 : Int) % (↑_x8.B.length : Int)).toNat) (by kernel_rfl) (by simp only [_w18, _w17, _w16]) rfl (by omega)
   (fun _x20 _hx21 => (Sat.pNodeT true (by kernel_rfl) rfl
   (Sat.pIfET ((0 : Int) ≤ (IntKind.i64.wrap (to.tdiv (256 : Int))).tmod (↑_x8.B.length : Int) ∧ (IntKind.i64.wrap (to.tdiv (256 : Int))).tmod (↑_x8.B.length : Int) < (↑_x8.B.length : Int)) ((0 : Int) ≤ to / (256 : Int) % (↑_x8.B.length : Int) ∧ to / (256 : Int) % (↑_x8.B.length : Int) < (↑_x8.B.length : Int)) (by kernel_rfl) (by simp only [_w18, _w17, _w16]) _w19
   (Sat.pElemH (fun (c : UInt8) => AV.int IntKind.u8 (↑c.toNat : Int)) (_x8.B) (List.map
   (fun (c : UInt8) => AV.int IntKind.u8 (↑c.toNat : Int)) _x8.B) (((IntKind.i64.wrap (to.tdiv (256 : Int))).tmod (↑_x8.B.length : Int)).toNat) ((to / (256 : Int) % (↑_x8.B.length : Int)).toNat) (_x20) (by kernel_rfl) (by simp only [_w18, _w17, _w16]) rfl _hx21
   (have _u22 : _x20.toNat < (256 : Nat) := UInt8.toNat_lt _; (have _w23 : IntKind.u8.wrap (to % (256 : Int)) = to % (256 : Int) := wU8 (by omega) (by omega);
   (have _w24 : IntKind.u8.wrap (↑(BitVec.ofInt (8 : Nat) (↑_x20.toNat : Int) ^^^ BitVec.ofInt (8 : Nat) (to % (256 : Int))).toNat : Int) = (↑(BitVec.ofInt (8 : Nat) (↑_x20.toNat : Int) ^^^ BitVec.ofInt (8 : Nat) (to % (256 : Int))).toNat : Int) := wU8 (by omega) (by omega);
   (have _w25 : List.take _x8.B.length ((List.map
   (fun (c : UInt8) => AV.int IntKind.u8 (↑c.toNat : Int)) _x8.B).set (to / (256 : Int) % (↑_x8.B.length : Int)).toNat (AV.int IntKind.u8 (↑(BitVec.ofInt (8 : Nat) (↑_x20.toNat : Int) ^^^ BitVec.ofInt (8 : Nat) (to % (256 : Int))).toNat : Int))) = (List.map
   (fun (c : UInt8) => AV.int IntKind.u8 (↑c.toNat : Int)) _x8.B).set (to / (256 : Int) % (↑_x8.B.length : Int)).toNat (AV.int IntKind.u8 (↑(BitVec.ofInt (8 : Nat) (↑_x20.toNat : Int) ^^^ BitVec.ofInt (8 : Nat) (to % (256 : Int))).toNat : Int)) := List.take_of_length_le (by simp);
   (Sat.pBytes (List.take _x8.B.length ((List.map
   (fun (c : UInt8) => AV.int IntKind.u8 (↑c.toNat : Int)) _x8.B).set ((IntKind.i64.wrap (to.tdiv (256 : Int))).tmod (↑_x8.B.length : Int)).toNat (AV.int IntKind.u8 (IntKind.u8.wrap (↑(BitVec.ofInt (8 : Nat) (↑_x20.toNat : Int) ^^^ BitVec.ofInt (8 : Nat) (IntKind.u8.wrap (to.tmod (256 : Int)))).toNat : Int))))) (_x8.B.set (to / (256 : Int) % (↑_x8.B.length : Int)).toNat (UInt8.ofNat (BitVec.ofInt (8 : Nat) (↑_x20.toNat : Int) ^^^ BitVec.ofInt (8 : Nat) (to % (256 : Int))).toNat)) (by kernel_rfl) ?_
   (Sat.pIfET ((0 : Int) ≤ i ∧ i < (↑l.length : Int)) ((0 : Int) ≤ i ∧ i < (↑l.length : Int)) (by kernel_rfl) Iff.rfl _h7
   (Sat.pElemH (encGram) (l) (List.map encGram l) (i.toNat) (i.toNat) (_x8) (by kernel_rfl) rfl rfl _hx9
   (Sat.pIfET ((0 : Int) ≤ i ∧ i < (↑l.length : Int)) ((0 : Int) ≤ i ∧ i < (↑l.length : Int)) (by kernel_rfl) Iff.rfl _h7
   (Sat.pElemM (encGram) (l.set i.toNat { From := _x8.From, To := _x8.To, B := _x8.B.set (to / (256 : Int) % (↑_x8.B.length : Int)).toNat (UInt8.ofNat (BitVec.ofInt (8 : Nat) (↑_x20.toNat : Int) ^^^ BitVec.ofInt (8 : Nat) (to % (256 : Int))).toNat), Turned := _x8.Turned }) ((List.map encGram l).set i.toNat (AV.agg [AV.int IntKind.i64 _x8.From, AV.int IntKind.i64 _x8.To, AV.str (_x8.B.set (to / (256 : Int) % (↑_x8.B.length : Int)).toNat (UInt8.ofNat (BitVec.ofInt (8 : Nat) (↑_x20.toNat : Int) ^^^ BitVec.ofInt (8 : Nat) (to % (256 : Int))).toNat)), AV.bool _x8.Turned])) (i.toNat) (by kernel_rfl) ?_ (by grind [netTurned])
   (fun _x26 _hx27 =>
   (have _w28 : List.take l.length (((List.map encGram l).set i.toNat (AV.agg [AV.int IntKind.i64 _x8.From, AV.int IntKind.i64 _x8.To, AV.str (_x8.B.set (to / (256 : Int) % (↑_x8.B.length : Int)).toNat (UInt8.ofNat (BitVec.ofInt (8 : Nat) (↑_x20.toNat : Int) ^^^ BitVec.ofInt (8 : Nat) (to % (256 : Int))).toNat)), AV.bool _x8.Turned])).set i.toNat (AV.agg [AV.int IntKind.i64 _x26.From, AV.int IntKind.i64 _x26.To, AV.str _x26.B, AV.bool Bool.true])) = ((List.map encGram l).set i.toNat (AV.agg [AV.int IntKind.i64 _x8.From, AV.int IntKind.i64 _x8.To, AV.str (_x8.B.set (to / (256 : Int) % (↑_x8.B.length : Int)).toNat (UInt8.ofNat (BitVec.ofInt (8 : Nat) (↑_x20.toNat : Int) ^^^ BitVec.ofInt (8 : Nat) (to % (256 : Int))).toNat)), AV.bool _x8.Turned])).set i.toNat (AV.agg [AV.int IntKind.i64 _x26.From, AV.int IntKind.i64 _x26.To, AV.str _x26.B, AV.bool Bool.true]) := List.take_of_length_le (by simp);
   (Sat.pRet ({ v := AV.tuple [AV.tree (List.take l.length (((List.map encGram l).set i.toNat (AV.agg [AV.int IntKind.i64 _x8.From, AV.int IntKind.i64 _x8.To, AV.str (_x8.B.set (to / (256 : Int) % (↑_x8.B.length : Int)).toNat (UInt8.ofNat (BitVec.ofInt (8 : Nat) (↑_x20.toNat : Int) ^^^ BitVec.ofInt (8 : Nat) (to % (256 : Int))).toNat)), AV.bool _x8.Turned])).set i.toNat (AV.agg [AV.int IntKind.i64 _x26.From, AV.int IntKind.i64 _x26.To, AV.str _x26.B, AV.bool Bool.true]))), AV.bool Bool.true], back := [], out := [] }) (by kernel_rfl) ?_)))))))))))))))))))))))
   (fun _h15 => False.elim (by omega)))))))))))))))))))))))))))))))
  all_goals have hx := xorN _x20 (to % 256) (by omega) (by omega)
  · simp only [_w13, _w16, _w17, _w18, _w23]; rw [_w24, _w25]; simp only [hx, UInt8.ofNat_toNat, List.map_set]
  · simp [encGram, List.map_set]
  · have e26 : _x26 = { From := _x8.From, To := _x8.To, B := _x8.B.set (to / 256 % ↑_x8.B.length).toNat (UInt8.ofNat (BitVec.ofInt 8 ↑_x20.toNat ^^^ BitVec.ofInt 8 (to % 256)).toNat), Turned := _x8.Turned } := by
      rw [List.getElem?_set_self (by omega)] at _hx27
      exact (Option.some.inj _hx27).symm
    have hl8 : l[i.toNat] = _x8 := by
      have := List.getElem?_eq_getElem (l := l) (i := i.toNat) (by omega)
      rw [_hx9] at this; exact (Option.some.inj this).symm
    have hne : _x8.B ≠ [] := by intro e; rw [e] at _h11; simp at _h11
    rw [_w28]
    simp only [netTurned, dif_pos _h7, hl8, _h10, Bool.false_eq_true, if_false, hne, _h12, _h14, or_self, e26, hx, UInt8.ofNat_toNat, turnB]
    simp [encGram, List.map_set, List.getD, _hx21]
end Go.Ab.Try
