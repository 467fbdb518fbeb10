/- Package cardamomref20: what is on its way, as plain Lean. -/
import Derived.Test.YtmppanboolejjaaGreatRef1f
namespace Go.Ab.Tryz
open Go
set_option maxRecDepth 100000
set_option maxHeartbeats 4000000
theorem c50 (l : List Gram) (g : Gram) (hl : l.length ≤ 20) : X.call 50 [.tree (l.map encGram),encGram g] [] ⟨.tuple [.tree ((netSend l g).map encGram),.bool (decide (l.length < 20))],[],[]⟩ := by
  refine spec_of ok Go.Proofs.Tryz.func50 ok50 ?_
  refine (.k (20 ≤ (↑(List.map encGram l).length : Int)) (20 ≤ l.length) (by simp only [List.length_map,ciLe])
   (fun _h4 => .q (Res.mk (AV.tuple [.tree (List.map encGram l),.bool false]) [] []) (by grind [netSend])) (fun _h4 => .b (.b (.z encGram l 4 (fun _ => rfl)
   (.k ((0 + (List.map encGram l).length) * (40 : Nat) ≤ 140737488355328) ((0 + l.length) * (40 : Nat) ≤ 140737488355328) (by simp only [List.length_map]) (fun _h5 => .T
   (.k ((0 + (List.map encGram l).length + 1) * (40 : Nat) ≤ 140737488355328) ((0 + l.length + 1) * (40 : Nat) ≤ 140737488355328) (by simp only [List.length_map])
   (fun _h6 => .k (0 + (List.map encGram l).length = (List.map encGram l).length) (0 + l.length = l.length) (by simp only [List.length_map])
   (fun _h7 => have _w8 : List.take ((0 : Nat) + (List.map encGram l).length + (1 : Nat)) (List.map encGram l ++ [encGram g]) = List.map encGram l ++ [encGram g] := List.take_of_length_le (by simp); .q (Res.mk (AV.tuple [.tree (List.take (0 + (List.map encGram l).length + 1) (List.map encGram l ++ [encGram g])),.bool true]) [] []) (by grind [netSend]))
   (fun _h7 => False.elim (by omega))) (fun _h6 => False.elim (by omega)))) (fun _h5 => False.elim (by omega)))) (.z encGram l 4 (fun _ => rfl)
   (.k ((0 + (List.map encGram l).length) * (40 : Nat) ≤ 140737488355328) ((0 + l.length) * (40 : Nat) ≤ 140737488355328) (by simp only [List.length_map]) (fun _h9 => .T
   (.k ((0 + (List.map encGram l).length + 1) * (40 : Nat) ≤ 140737488355328) ((0 + l.length + 1) * (40 : Nat) ≤ 140737488355328) (by simp only [List.length_map])
   (fun _h10 => .k (0 + (List.map encGram l).length = (List.map encGram l).length) (0 + l.length = l.length) (by simp only [List.length_map])
   (fun _h11 => have _w12 : List.take ((0 : Nat) + (List.map encGram l).length + (1 : Nat)) (List.map encGram l ++ [encGram g]) = List.map encGram l ++ [encGram g] := List.take_of_length_le (by simp); .q (Res.mk (AV.tuple [.tree (List.take (0 + (List.map encGram l).length + 1) (List.map encGram l ++ [encGram g])),.bool true]) [] []) (by grind [netSend]))
   (fun _h11 => False.elim (by omega))) (fun _h10 => False.elim (by omega)))) (fun _h9 => False.elim (by omega))))) (.z encGram l 4 (fun _ => rfl)
   (.k ((0 + (List.map encGram l).length) * (40 : Nat) ≤ 140737488355328) ((0 + l.length) * (40 : Nat) ≤ 140737488355328) (by simp only [List.length_map]) (fun _h13 => .T
   (.k ((0 + (List.map encGram l).length + 1) * (40 : Nat) ≤ 140737488355328) ((0 + l.length + 1) * (40 : Nat) ≤ 140737488355328) (by simp only [List.length_map])
   (fun _h14 => .k (0 + (List.map encGram l).length = (List.map encGram l).length) (0 + l.length = l.length) (by simp only [List.length_map])
   (fun _h15 => have _w16 : List.take ((0 : Nat) + (List.map encGram l).length + (1 : Nat)) (List.map encGram l ++ [encGram g]) = List.map encGram l ++ [encGram g] := List.take_of_length_le (by simp); .q (Res.mk (AV.tuple [.tree (List.take (0 + (List.map encGram l).length + 1) (List.map encGram l ++ [encGram g])),.bool true]) [] []) (by grind [netSend]))
   (fun _h15 => False.elim (by omega))) (fun _h14 => False.elim (by omega)))) (fun _h13 => False.elim (by omega))))))
theorem c51 (l : List Gram) (i : Int) (hl : l.length ≤ 20) : X.call 51 [.tree (l.map encGram),.int .i64 i] [] ⟨.tuple [.tree ((netComes l i).1.map encGram),encGram (netComes l i).2.1,.bool (netComes l i).2.2],[],[]⟩ := by
  rcases Int.lt_or_le i 0 with hi | hi
  · refine spec_of ok Go.Proofs.Tryz.func51 ok51 ?_
    refine (.it hi (.it hi (.it hi (.it hi (.it hi (.T
     (.q (Res.mk (AV.tuple [.tree (List.map encGram l),.agg [.int .i64 0,.int .i64 0,.str [],.bool false],.bool false]) [] []) (by (rw [show netComes l i = (l,⟨0,0,[],false⟩,false) from if_neg (by omega)]; rfl)))))))))
  · obtain ⟨n,rfl⟩ := Int.eq_ofNat_of_zero_le hi
    have e1 : ((n : Int) + 1).toNat = n + 1 := by omega
    refine spec_of ok Go.Proofs.Tryz.func51 ok51 ?_
    refine (.F (.F (.F (.F (.F (.k ((↑(List.map encGram l).length : Int) ≤ (↑n : Int)) (l.length ≤ n) (by simp only [List.length_map,Int.ofNat_le])
     (fun _h8 => .q (Res.mk (AV.tuple [.tree (List.map encGram l),.agg [.int .i64 0,.int .i64 0,.str [],.bool false],.bool false]) [] []) (by (rw [show netComes l (n : Int) = (l,⟨0,0,[],false⟩,false) from if_neg (by omega)]; rfl)))
     (fun _h8 => .k (0 ≤ (↑n : Int) ∧ (↑n : Int) ≤ (↑(List.map encGram l).length : Int)) (0 ≤ n ∧ n ≤ l.length) (by simp only [List.length_map,Int.ofNat_le,ciLe]) (fun _h9 => .z encGram l 4 (fun _ => rfl)
     (have _w10 := wI64' ((↑n : Int) + (1 : Int)); .k (0 ≤ IntKind.i64.wrap ((↑n : Int) + 1) ∧ IntKind.i64.wrap ((↑n : Int) + 1) ≤ (↑(List.map encGram l).length : Int)) (0 ≤ (↑n : Int) + 1 ∧ (↑n : Int) + 1 ≤ (↑l.length : Int)) (by simp only [List.length_map,_w10])
     (fun _h11 => .T (.em encGram l n (by omega) (fun _x12 _hx13 => Sat.pEszM (encGram) (List.take (↑n : Int).toNat l) (List.take (↑n : Int).toNat (List.map encGram l)) (4) (by kernel_rfl) (by simp)
     (fun _ => rfl)
     (.k ((0 + (List.take (↑n : Int).toNat (List.map encGram l)).length) * (40 : Nat) ≤ 140737488355328) ((0 + Min.min n l.length) * (40 : Nat) ≤ 140737488355328) (by simp only [List.length_map,List.length_take,Int.toNat_natCast])
     (fun _h14 => .T (Sat.pEszM (encGram) (List.drop ((↑n : Int) + (1 : Int)).toNat l) (List.drop (IntKind.i64.wrap ((↑n : Int) + (1 : Int))).toNat (List.map encGram l)) (4) (by kernel_rfl) (by simp [_w10])
     (fun _ => rfl)
     (.k ((0 + (List.take (↑n : Int).toNat (List.map encGram l)).length + (List.drop (IntKind.i64.wrap ((↑n : Int) + 1)).toNat (List.map encGram l)).length) * (40 : Nat) ≤ 140737488355328) ((0 + Min.min n l.length + (l.length - ((↑n : Int) + 1).toNat)) * (40 : Nat) ≤ 140737488355328) (by simp only [List.length_map,List.length_take,List.length_drop,Int.toNat_natCast,_w10])
     (fun _h15 => .k (0 + (List.take (↑n : Int).toNat (List.map encGram l)).length = (List.take (↑n : Int).toNat (List.map encGram l)).length) (0 + Min.min n l.length = Min.min n l.length) (by simp only [List.length_map,List.length_take,Int.toNat_natCast])
     (fun _h16 => have _w17 : List.take ((0 : Nat) + (List.take (↑n : Int).toNat (List.map encGram l)).length + (List.drop ((↑n : Int) + (1 : Int)).toNat (List.map encGram l)).length) (List.take (↑n : Int).toNat (List.map encGram l) ++ List.drop ((↑n : Int) + (1 : Int)).toNat (List.map encGram l)) = List.take (↑n : Int).toNat (List.map encGram l) ++ List.drop ((↑n : Int) + (1 : Int)).toNat (List.map encGram l) := List.take_of_length_le (by simp); .q (Res.mk (AV.tuple [.tree (List.take (0 + (List.take (↑n : Int).toNat (List.map encGram l)).length + (List.drop (IntKind.i64.wrap ((↑n : Int) + 1)).toNat (List.map encGram l)).length) (List.take (↑n : Int).toNat (List.map encGram l) ++ List.drop (IntKind.i64.wrap ((↑n : Int) + 1)).toNat (List.map encGram l))),encGram _x12,.bool true]) [] []) (by (simp_all [netComes,encGram,List.eraseIdx_eq_take_drop_succ,List.getD,List.take_of_length_le]; done)))
     (fun _h16 => False.elim (by omega))) (fun _h15 => False.elim (by omega))))) (fun _h14 => False.elim (by omega)))))) (fun _h11 => False.elim (by omega)))) (fun _h9 => False.elim (by omega)))))))))
theorem c55 (l : List Gram) (i : Int) (hl : l.length ≤ 20) : X.call 55 [.tree (l.map encGram),.int .i64 i] [] ⟨.tuple [.tree ((netComes l i).1.map encGram),.bool (netComes l i).2.2],[],[]⟩ := by
  refine spec_of ok Go.Proofs.Tryz.func55 ok55 ?_
  refine (.c (@Tryz.c51 (l) (i) ‹_›) .r)
theorem c56 (l : List Gram) (i : Int) (hl : l.length ≤ 20) : X.call 56 [.tree (l.map encGram),.int .i64 i] [] ⟨.tuple [.tree ((netTwice l i).map encGram),.bool (decide (0 ≤ i ∧ i < l.length ∧ l.length < 20))],[],[]⟩ := by
  refine spec_of ok Go.Proofs.Tryz.func56 ok56 ?_
  refine (.i (i < 0) (fun _h4 => .it _h4 (.it _h4 (.it _h4 (.it _h4 (.T (.q (Res.mk (AV.tuple [.tree (List.map encGram l),.bool false]) [] []) (by grind [netTwice]))))))) (fun _h4 => .iF _h4 (.iF _h4
   (.iF _h4 (.iF _h4 (.k ((↑(List.map encGram l).length : Int) ≤ i) ((↑l.length : Int) ≤ i) (by simp only [List.length_map])
   (fun _h5 => .q (Res.mk (AV.tuple [.tree (List.map encGram l),.bool false]) [] []) (by grind [netTwice])) (fun _h5 => .i (0 ≤ i) (fun _h6 => .em encGram l i.toNat (by omega)
   (fun _x7 _hx8 => .c (@Tryz.c50 (l) (_x7) ‹_›) (.q (Res.mk (AV.tuple [.tree (List.map encGram (netSend l _x7)),.bool (decide (l.length < 20))]) [] []) (by (simp_all [netTwice]; done)))))
   (fun _h6 => False.elim (by omega)))))))))
theorem getElem_at {T : Type} {l : List T} {k : Nat} {x : T} (h : l[k]? = some x) (hk : k < l.length) : l[k] = x := by
  rw [List.getElem?_eq_getElem hk] at h; exact Option.some.inj h
theorem netTurned_same {l : List Gram} {i to : Int} {g : Gram} (hx : l[i.toNat]? = some g) (h0 : 0 ≤ i) (ht : g.Turned = false) (hc : g.B = [] ∨ to < 0 ∨ to % 256 = 0) : netTurned l i to = (l,true) := by
  have hk : i.toNat < l.length := (List.getElem?_eq_some_iff.1 hx).1
  unfold netTurned
  rw [dif_pos (by omega)]
  simp only [getElem_at hx hk,ht,Bool.false_eq_true,if_false,hc,if_true]
theorem netTurned_yes {l : List Gram} {i to : Int} {g : Gram} (hx : l[i.toNat]? = some g) (h0 : 0 ≤ i) (ht : g.Turned = false) (h1 : ¬ to < 0) (h2 : ¬ to % 256 = 0) (h3 : ¬ g.B = []) : netTurned l i to = (l.set i.toNat { g with B := turnB g.B to,Turned := true },true) := by
  have hk : i.toNat < l.length := (List.getElem?_eq_some_iff.1 hx).1
  unfold netTurned
  rw [dif_pos (by omega)]
  simp only [getElem_at hx hk,ht,Bool.false_eq_true,if_false,h1,h2,h3,or_self]
theorem map_set_same {l : List Gram} {n : Nat} {x : Gram} (h : l[n]? = some x) : (l.map encGram).set n (encGram x) = l.map encGram := by
  rw [← List.map_set]
  congr 1
  have hk : n < l.length := (List.getElem?_eq_some_iff.1 h).1
  rw [← getElem_at h hk]; exact List.set_getElem_self hk
theorem c57 (l : List Gram) (i to : Int) (hl : l.length ≤ 20) (ht : to < 1000000) : X.call 57 [.tree (l.map encGram),.int .i64 i,.int .i64 to] [] ⟨.tuple [.tree ((netTurned l i to).1.map encGram),.bool (netTurned l i to).2],[],[]⟩ := by
  refine spec_of ok Go.Proofs.Tryz.func57 ok57 ?_
  refine (.i (i < 0) (fun _h6 => .it _h6 (.it _h6 (.it _h6 (.it _h6 (.T (.T (.T (.T (.T (.T (.T (.q (Res.mk (AV.tuple [.tree (List.map encGram l),.bool false]) [] []) (by grind [netTurned])))))))))))))
   (fun _h6 => .iF _h6 (.iF _h6 (.iF _h6 (.iF _h6 (.k ((↑(List.map encGram l).length : Int) ≤ i) ((↑l.length : Int) ≤ i) (by simp only [List.length_map])
   (fun _h7 => .et ((↑(List.map encGram l).length : Int) ≤ i) (by simp only [List.length_map]) _h7 (.et ((↑(List.map encGram l).length : Int) ≤ i) (by simp only [List.length_map]) _h7
   (.et ((↑(List.map encGram l).length : Int) ≤ i) (by simp only [List.length_map]) _h7 (.et ((↑(List.map encGram l).length : Int) ≤ i) (by simp only [List.length_map]) _h7
   (.et ((↑(List.map encGram l).length : Int) ≤ i) (by simp only [List.length_map]) _h7 (.T (.q (Res.mk (AV.tuple [.tree (List.map encGram l),.bool false]) [] []) (by grind [netTurned]))))))))
   (fun _h7 => .eF ((↑(List.map encGram l).length : Int) ≤ i) (by simp only [List.length_map]) _h7 (.eF ((↑(List.map encGram l).length : Int) ≤ i) (by simp only [List.length_map]) _h7 (.i (0 ≤ i)
   (fun _h8 => .em encGram l i.toNat (by omega) (fun _x9 _hx10 => .eF ((↑(List.map encGram l).length : Int) ≤ i) (by simp only [List.length_map]) _h7
   (.eF ((↑(List.map encGram l).length : Int) ≤ i) (by simp only [List.length_map]) _h7 (.eF ((↑(List.map encGram l).length : Int) ≤ i) (by simp only [List.length_map]) _h7 (.n _x9.Turned
   (fun _h11 => .q (Res.mk (AV.tuple [.tree (List.map encGram l),.bool false]) [] []) (by (simp_all [netTurned]; done))) (fun _h11 => .z encGram l 4 (fun _ => rfl)
   (.k ((0 + (List.map encGram l).length) * (40 : Nat) ≤ 140737488355328) ((0 + l.length) * (40 : Nat) ≤ 140737488355328) (by simp only [List.length_map]) (fun _h12 => .T (.it _h8 (.eh encGram _hx10
   (.k (0 < (↑_x9.B.length : Int)) (0 < _x9.B.length) (by simp only [ciLt]) (fun _h13 => .et (0 < (↑_x9.B.length : Int)) (by simp only [ciLt]) _h13
   (.et (0 < (↑_x9.B.length : Int)) (by simp only [ciLt]) _h13 (.i (0 ≤ to) (fun _h14 => .it _h14 (.T (.it _h14 (.it _h14
   (have _w15 : to.tmod (256 : Int) = to % (256 : Int) := Int.tmod_eq_emod_of_nonneg (by omega); .k (0 < to.tmod 256) (0 < to % 256) (by simp only [_w15])
   (fun _h16 => .k (0 ≤ i ∧ i < (↑(0 + (List.map encGram l).length) : Int)) (0 ≤ i ∧ i < (↑(0 + l.length) : Int)) (by simp only [List.length_map]) (fun _h17 => .eh encGram _hx10 (.T
   (.k ((↑_x9.B.length : Int) ≠ 0) (¬_x9.B.length = 0) (by simp only [icEq,ne_eq])
   (fun _h18 => have _w19 : to.tdiv (256 : Int) = to / (256 : Int) := Int.tdiv_eq_ediv_of_nonneg (by omega); have _w20 := wI64' (to / (256 : Int)); have _w21 : (to / (256 : Int)).tmod (↑_x9.B.length : Int) = to / (256 : Int) % (↑_x9.B.length : Int) := Int.tmod_eq_emod_of_nonneg (by omega); have _w22 : (0 : Int) ≤ to / (256 : Int) % (↑_x9.B.length : Int) ∧ to / (256 : Int) % (↑_x9.B.length : Int) < (↑_x9.B.length : Int) := ⟨Int.emod_nonneg _ (by omega),Int.emod_lt_of_pos _ (by omega)⟩; .et (0 ≤ (IntKind.i64.wrap (to.tdiv 256)).tmod (↑_x9.B.length : Int) ∧ (IntKind.i64.wrap (to.tdiv 256)).tmod (↑_x9.B.length : Int) < (↑_x9.B.length : Int)) (by simp only [_w21,_w20,_w19]) _w22
   (.eM (fun (c : UInt8) => AV.int IntKind.u8 (↑c.toNat : Int)) _x9.B (((IntKind.i64.wrap (to.tdiv 256)).tmod (↑_x9.B.length : Int)).toNat) ((to / 256 % (↑_x9.B.length : Int)).toNat) (by simp only [_w21,_w20,_w19]) (by omega)
   (fun _x23 _hx24 => .T
   (.et (0 ≤ (IntKind.i64.wrap (to.tdiv 256)).tmod (↑_x9.B.length : Int) ∧ (IntKind.i64.wrap (to.tdiv 256)).tmod (↑_x9.B.length : Int) < (↑_x9.B.length : Int)) (by simp only [_w21,_w20,_w19]) _w22
   (.eH (fun (c : UInt8) => AV.int IntKind.u8 (↑c.toNat : Int)) _x9.B (((IntKind.i64.wrap (to.tdiv 256)).tmod (↑_x9.B.length : Int)).toNat) (by simp only [_w21,_w20,_w19]) _hx24
   (have _u25 : _x23.toNat < (256 : Nat) := UInt8.toNat_lt _; have _w26 := wU8' (to % (256 : Int)); have _w27 := wU8' (↑(BitVec.ofInt (8 : Nat) (↑_x23.toNat : Int) ^^^ BitVec.ofInt (8 : Nat) (to % (256 : Int))).toNat : Int); have _w28 : List.take _x9.B.length ((List.map (fun (c : UInt8) => AV.int IntKind.u8 (↑c.toNat : Int)) _x9.B).set (to / (256 : Int) % (↑_x9.B.length : Int)).toNat (AV.int IntKind.u8 (↑(BitVec.ofInt (8 : Nat) (↑_x23.toNat : Int) ^^^ BitVec.ofInt (8 : Nat) (to % (256 : Int))).toNat : Int))) = (List.map (fun (c : UInt8) => AV.int IntKind.u8 (↑c.toNat : Int)) _x9.B).set (to / (256 : Int) % (↑_x9.B.length : Int)).toNat (AV.int IntKind.u8 (↑(BitVec.ofInt (8 : Nat) (↑_x23.toNat : Int) ^^^ BitVec.ofInt (8 : Nat) (to % (256 : Int))).toNat : Int)) := List.take_of_length_le (by simp); .B (List.take _x9.B.length ((List.map (fun (c : UInt8) => AV.int IntKind.u8 (↑c.toNat : Int)) _x9.B).set ((IntKind.i64.wrap (to.tdiv (256 : Int))).tmod (↑_x9.B.length : Int)).toNat (AV.int IntKind.u8 (IntKind.u8.wrap (↑(BitVec.ofInt (8 : Nat) (↑_x23.toNat : Int) ^^^ BitVec.ofInt (8 : Nat) (IntKind.u8.wrap (to.tmod (256 : Int)))).toNat : Int))))) (_x9.B.set (to / (256 : Int) % (↑_x9.B.length : Int)).toNat (UInt8.ofNat (BitVec.ofInt (8 : Nat) (↑_x23.toNat : Int) ^^^ BitVec.ofInt (8 : Nat) (to % (256 : Int))).toNat)) ?_
   (.et (0 ≤ i ∧ i < (↑(0 + (List.map encGram l).length) : Int)) (by simp only [List.length_map]) _h17
   (Sat.pElemM (encGram) (l.set i.toNat (Gram.mk _x9.From _x9.To _x9.B Bool.true)) ((List.map encGram l).set i.toNat (AV.agg [AV.int IntKind.i64 _x9.From,AV.int IntKind.i64 _x9.To,AV.str _x9.B,AV.bool Bool.true])) (i.toNat) (by kernel_rfl) (by simp [encGram]) (by (simp; omega))
   (fun _x29 _hx30 => have _w31 : List.take ((0 : Nat) + (List.map encGram l).length) (((List.map encGram l).set i.toNat (AV.agg [AV.int IntKind.i64 _x9.From,AV.int IntKind.i64 _x9.To,AV.str _x9.B,AV.bool Bool.true])).set i.toNat (AV.agg [AV.int IntKind.i64 _x29.From,AV.int IntKind.i64 _x29.To,AV.str (_x9.B.set (to / (256 : Int) % (↑_x9.B.length : Int)).toNat (UInt8.ofNat (BitVec.ofInt (8 : Nat) (↑_x23.toNat : Int) ^^^ BitVec.ofInt (8 : Nat) (to % (256 : Int))).toNat)),AV.bool _x29.Turned])) = ((List.map encGram l).set i.toNat (AV.agg [AV.int IntKind.i64 _x9.From,AV.int IntKind.i64 _x9.To,AV.str _x9.B,AV.bool Bool.true])).set i.toNat (AV.agg [AV.int IntKind.i64 _x29.From,AV.int IntKind.i64 _x29.To,AV.str (_x9.B.set (to / (256 : Int) % (↑_x9.B.length : Int)).toNat (UInt8.ofNat (BitVec.ofInt (8 : Nat) (↑_x23.toNat : Int) ^^^ BitVec.ofInt (8 : Nat) (to % (256 : Int))).toNat)),AV.bool _x29.Turned]) := List.take_of_length_le (by simp); .q (Res.mk (AV.tuple [.tree (List.take (0 + (List.map encGram l).length) (((List.map encGram l).set i.toNat
   (.agg [.int .i64 _x9.From,.int .i64 _x9.To,.str _x9.B,.bool true])).set i.toNat
   (.agg [.int .i64 _x29.From,.int .i64 _x29.To,.str (_x9.B.set (to / 256 % (↑_x9.B.length : Int)).toNat (UInt8.ofNat (BitVec.ofInt 8 (↑_x23.toNat : Int) ^^^ BitVec.ofInt 8 (to % 256)).toNat)),.bool _x29.Turned]))),.bool true]) [] []) ?_)))))))))
   (fun _h18 => False.elim (by omega))))) (fun _h17 => False.elim (by omega)))
   (fun _h16 => have _w32 : List.take _x9.B.length (List.map (fun (c : UInt8) => AV.int IntKind.u8 (↑c.toNat : Int)) _x9.B) = List.map (fun (c : UInt8) => AV.int IntKind.u8 (↑c.toNat : Int)) _x9.B := List.take_of_length_le (by simp); .B (List.take _x9.B.length (List.map (fun (c : UInt8) => AV.int IntKind.u8 (↑c.toNat : Int)) _x9.B)) _x9.B (by simp only [_w32])
   (.k (0 ≤ i ∧ i < (↑(0 + (List.map encGram l).length) : Int)) (0 ≤ i ∧ i < (↑(0 + l.length) : Int)) (by simp only [List.length_map]) (fun _h33 => .eh encGram _hx10
   (have _w34 : List.take ((0 : Nat) + (List.map encGram l).length) ((List.map encGram l).set i.toNat (AV.agg [AV.int IntKind.i64 _x9.From,AV.int IntKind.i64 _x9.To,AV.str _x9.B,AV.bool _x9.Turned])) = (List.map encGram l).set i.toNat (AV.agg [AV.int IntKind.i64 _x9.From,AV.int IntKind.i64 _x9.To,AV.str _x9.B,AV.bool _x9.Turned]) := List.take_of_length_le (by simp); .q (Res.mk (AV.tuple [.tree (List.take (0 + (List.map encGram l).length) ((List.map encGram l).set i.toNat (encGram _x9))),.bool true]) [] []) ?_))
   (fun _h33 => False.elim (by omega))))))))) (fun _h14 => .iF _h14 (.iF _h14 (.iF _h14 (.F
   (have _w35 : List.take _x9.B.length (List.map (fun (c : UInt8) => AV.int IntKind.u8 (↑c.toNat : Int)) _x9.B) = List.map (fun (c : UInt8) => AV.int IntKind.u8 (↑c.toNat : Int)) _x9.B := List.take_of_length_le (by simp); .B (List.take _x9.B.length (List.map (fun (c : UInt8) => AV.int IntKind.u8 (↑c.toNat : Int)) _x9.B)) _x9.B (by simp only [_w35])
   (.k (0 ≤ i ∧ i < (↑(0 + (List.map encGram l).length) : Int)) (0 ≤ i ∧ i < (↑(0 + l.length) : Int)) (by simp only [List.length_map]) (fun _h36 => .eh encGram _hx10
   (have _w37 : List.take ((0 : Nat) + (List.map encGram l).length) ((List.map encGram l).set i.toNat (AV.agg [AV.int IntKind.i64 _x9.From,AV.int IntKind.i64 _x9.To,AV.str _x9.B,AV.bool _x9.Turned])) = (List.map encGram l).set i.toNat (AV.agg [AV.int IntKind.i64 _x9.From,AV.int IntKind.i64 _x9.To,AV.str _x9.B,AV.bool _x9.Turned]) := List.take_of_length_le (by simp); .q (Res.mk (AV.tuple [.tree (List.take (0 + (List.map encGram l).length) ((List.map encGram l).set i.toNat (encGram _x9))),.bool true]) [] []) ?_))
   (fun _h36 => False.elim (by omega))))))))))) (fun _h13 => .eF (0 < (↑_x9.B.length : Int)) (by simp only [ciLt]) _h13 (.eF (0 < (↑_x9.B.length : Int)) (by simp only [ciLt]) _h13 (.F (.F (.F (.F (.F
   (have _w38 : List.take _x9.B.length (List.map (fun (c : UInt8) => AV.int IntKind.u8 (↑c.toNat : Int)) _x9.B) = List.map (fun (c : UInt8) => AV.int IntKind.u8 (↑c.toNat : Int)) _x9.B := List.take_of_length_le (by simp); .B (List.take _x9.B.length (List.map (fun (c : UInt8) => AV.int IntKind.u8 (↑c.toNat : Int)) _x9.B)) _x9.B (by simp only [_w38])
   (.k (0 ≤ i ∧ i < (↑(0 + (List.map encGram l).length) : Int)) (0 ≤ i ∧ i < (↑(0 + l.length) : Int)) (by simp only [List.length_map]) (fun _h39 => .eh encGram _hx10
   (have _w40 : List.take ((0 : Nat) + (List.map encGram l).length) ((List.map encGram l).set i.toNat (AV.agg [AV.int IntKind.i64 _x9.From,AV.int IntKind.i64 _x9.To,AV.str _x9.B,AV.bool _x9.Turned])) = (List.map encGram l).set i.toNat (AV.agg [AV.int IntKind.i64 _x9.From,AV.int IntKind.i64 _x9.To,AV.str _x9.B,AV.bool _x9.Turned]) := List.take_of_length_le (by simp); .q (Res.mk (AV.tuple [.tree (List.take (0 + (List.map encGram l).length) ((List.map encGram l).set i.toNat (encGram _x9))),.bool true]) [] []) ?_))
   (fun _h39 => False.elim (by omega))))))))))))))) (fun _h12 => False.elim (by omega))))))))) (fun _h8 => False.elim (by omega)))))))))))
  · rw [show (IntKind.i64.wrap (to.tdiv 256)).tmod ↑_x9.B.length = to / 256 % ↑_x9.B.length by rw [_w19,_w20,_w21],_w15,_w26,_w27,List.take_of_length_le (by simp),List.map_set,xorN _x23 (to % 256) (by omega) (by omega)]
    simp
  · have hb : i.toNat < l.length := by omega
    have e29 : _x29 = { From := _x9.From,To := _x9.To,B := _x9.B,Turned := true } := by
      rw [List.getElem?_set_self (by simpa using hb)] at _hx30
      exact (Option.some.inj _hx30).symm
    rw [List.take_of_length_le (by simp),e29,netTurned_yes _hx10 (by omega) _h11 (by omega) (by omega) (by intro h; rw [h] at _h13; simp at _h13)]
    simp [encGram,List.map_set,turnB,List.getD,_hx24,xorN _x23 (to % 256) (by omega) (by omega)]
  · rw [List.take_of_length_le (by simp),netTurned_same _hx10 (by omega) _h11 (.inr (.inr (by omega)))]
    exact congrArg (fun x => Res.mk (AV.tuple [AV.tree x,AV.bool true]) [] []) (map_set_same _hx10)
  · rw [List.take_of_length_le (by simp),netTurned_same _hx10 (by omega) _h11 (.inr (.inl (by omega)))]
    exact congrArg (fun x => Res.mk (AV.tuple [AV.tree x,AV.bool true]) [] []) (map_set_same _hx10)
  · rw [List.take_of_length_le (by simp),netTurned_same _hx10 (by omega) _h11 (.inl (List.length_eq_zero_iff.1 (by omega)))]
    exact congrArg (fun x => Res.mk (AV.tuple [AV.tree x,AV.bool true]) [] []) (map_set_same _hx10)
theorem any_succ {T : Type} {l : List T} {k : Nat} {x : T} {f : T → Bool} (h : l[k]? = some x) (hn : (l.take k).any f = false) (hx : f x = false) : (l.take (k + 1)).any f = false := by
  rw [take_succ h,List.any_append,hn]; simp [hx]
theorem any_yes {T : Type} {l : List T} {k : Nat} {x : T} {f : T → Bool} (h : l[k]? = some x) (hx : f x = true) : l.any f = true := by
  rw [List.any_eq_true]; exact ⟨x,List.mem_of_getElem? h,hx⟩
theorem c48 (l : List Edge) (a b : Int) (hl : l.length ≤ 100000) : X.call 48 [.tree (l.map encEdge),.int .i64 a,.int .i64 b] [] ⟨.bool (l.any fun e => decide (e = ⟨a,b⟩) || decide (e = ⟨b,a⟩)),[],[]⟩ := by
  refine spec_of ok Go.Proofs.Tryz.func48 ok48 ?_
  refine ?_
  refine Sat.pLoop 2 (St.mk [(0,.tree (List.map encEdge l)),(1,.int .i64 a),(2,.int .i64 b),(7,.int .i64 0)] []) (by kernel_rfl) (fun (k : Nat) => ⟨[(0,.tree (l.map encEdge)),(1,.int .i64 a),(2,.int .i64 b),(7,.int .i64 k)],[]⟩) (fun k => k ≤ l.length ∧ ((l.take k).any fun e => decide (e = ⟨a,b⟩) || decide (e = ⟨b,a⟩)) = false) (fun k => l.length - k) 0 rfl ?_ ?_
  · simp
  · intro k hI again
    have hk := hI.1
    have hs := hI.2
    clear hI
    refine (.kl encEdge l k (fun _h10 => .T (.em encEdge l k ‹_›
     (fun _x11 _hx12 => Sat.pNodeE (decide (_x11.A = a) && (decide (_x11.B = b) && Bool.true)) (_x11.A = a ∧ _x11.B = b ∧ True) (by kernel_rfl) (by simp only [Bool.and_eq_true,decide_eq_true_eq])
     (fun _h13 => Sat.pNodeET (decide (_x11.A = a) && (decide (_x11.B = b) && Bool.true)) (_x11.A = a ∧ _x11.B = b ∧ True) (by kernel_rfl) (by simp only [Bool.and_eq_true,decide_eq_true_eq]) _h13
     (Sat.pNodeET (decide (_x11.A = a) && (decide (_x11.B = b) && Bool.true)) (_x11.A = a ∧ _x11.B = b ∧ True) (by kernel_rfl) (by simp only [Bool.and_eq_true,decide_eq_true_eq]) _h13
     (Sat.pNodeET (decide (_x11.A = a) && (decide (_x11.B = b) && Bool.true)) (_x11.A = a ∧ _x11.B = b ∧ True) (by kernel_rfl) (by simp only [Bool.and_eq_true,decide_eq_true_eq]) _h13
     (Sat.pNodeET (decide (_x11.A = a) && (decide (_x11.B = b) && Bool.true)) (_x11.A = a ∧ _x11.B = b ∧ True) (by kernel_rfl) (by simp only [Bool.and_eq_true,decide_eq_true_eq]) _h13
     (Sat.pNodeET (decide (_x11.A = a) && (decide (_x11.B = b) && Bool.true)) (_x11.A = a ∧ _x11.B = b ∧ True) (by kernel_rfl) (by simp only [Bool.and_eq_true,decide_eq_true_eq]) _h13
     (Sat.pNodeET (decide (_x11.A = a) && (decide (_x11.B = b) && Bool.true)) (_x11.A = a ∧ _x11.B = b ∧ True) (by kernel_rfl) (by simp only [Bool.and_eq_true,decide_eq_true_eq]) _h13
     (Sat.pNodeET (decide (_x11.A = a) && (decide (_x11.B = b) && Bool.true)) (_x11.A = a ∧ _x11.B = b ∧ True) (by kernel_rfl) (by simp only [Bool.and_eq_true,decide_eq_true_eq]) _h13
     (Sat.pNodeET (decide (_x11.A = a) && (decide (_x11.B = b) && Bool.true)) (_x11.A = a ∧ _x11.B = b ∧ True) (by kernel_rfl) (by simp only [Bool.and_eq_true,decide_eq_true_eq]) _h13 (.T (.q (Res.mk
     (.bool true) [] []) (by (clear again; (rw [any_yes ‹_› (by simp [edge_eq, *])])))))))))))))
     (fun _h13 => Sat.pNodeEF (decide (_x11.A = a) && (decide (_x11.B = b) && Bool.true)) (_x11.A = a ∧ _x11.B = b ∧ True) (by kernel_rfl) (by simp only [Bool.and_eq_true,decide_eq_true_eq]) _h13
     (Sat.pNodeEF (decide (_x11.A = a) && (decide (_x11.B = b) && Bool.true)) (_x11.A = a ∧ _x11.B = b ∧ True) (by kernel_rfl) (by simp only [Bool.and_eq_true,decide_eq_true_eq]) _h13 (.T
     (.eh encEdge _hx12 (Sat.pNodeEF (decide (_x11.A = a) && (decide (_x11.B = b) && Bool.true)) (_x11.A = a ∧ _x11.B = b ∧ True) (by kernel_rfl) (by simp only [Bool.and_eq_true,decide_eq_true_eq]) _h13
     (Sat.pNodeEF (decide (_x11.A = a) && (decide (_x11.B = b) && Bool.true)) (_x11.A = a ∧ _x11.B = b ∧ True) (by kernel_rfl) (by simp only [Bool.and_eq_true,decide_eq_true_eq]) _h13
     (Sat.pNodeEF (decide (_x11.A = a) && (decide (_x11.B = b) && Bool.true)) (_x11.A = a ∧ _x11.B = b ∧ True) (by kernel_rfl) (by simp only [Bool.and_eq_true,decide_eq_true_eq]) _h13
     (Sat.pNodeEF (decide (_x11.A = a) && (decide (_x11.B = b) && Bool.true)) (_x11.A = a ∧ _x11.B = b ∧ True) (by kernel_rfl) (by simp only [Bool.and_eq_true,decide_eq_true_eq]) _h13
     (Sat.pNodeEF (decide (_x11.A = a) && (decide (_x11.B = b) && Bool.true)) (_x11.A = a ∧ _x11.B = b ∧ True) (by kernel_rfl) (by simp only [Bool.and_eq_true,decide_eq_true_eq]) _h13
     (Sat.pNodeEF (decide (_x11.A = a) && (decide (_x11.B = b) && Bool.true)) (_x11.A = a ∧ _x11.B = b ∧ True) (by kernel_rfl) (by simp only [Bool.and_eq_true,decide_eq_true_eq]) _h13
     (Sat.pNodeE (decide (_x11.A = b) && (decide (_x11.B = a) && Bool.true)) (_x11.A = b ∧ _x11.B = a ∧ True) (by kernel_rfl) (by simp only [Bool.and_eq_true,decide_eq_true_eq]) (fun _h30 => .q (Res.mk
     (.bool true) [] []) (by (clear again; (rw [any_yes ‹_› (by simp [edge_eq, *])]))))
     (fun _h30 => have _w31 := wI64' ((↑k : Int) + (1 : Int)); .A (St.mk [(0,.tree (List.map encEdge l)),(1,.int .i64 a),(2,.int .i64 b),(7,.int .i64 (IntKind.i64.wrap ((↑k : Int) + 1)))] []) (by simp [_w31]) (again (k + (1 : Nat)) ⟨(by omega),(by (clear again; (refine any_succ ‹_› hs ?_; simp only [edge_eq]; simp_all; done)))⟩ (by omega)))))))))))))))))
     (fun _h10 => .q (Res.mk (.bool false) [] []) (by (clear again; (rw [List.take_of_length_le (by omega)] at hs; rw [hs])))))
end Go.Ab.Tryz
