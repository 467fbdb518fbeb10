/- Package cardamomplay: what is picked, as plain Lean. -/
import Derived.Test.YtmppanboolejjaaGreatPicks
import Derived.Test.YtmppanboolejjaaGreatG3
namespace Go.Ab.Tryz
open Go
set_option maxRecDepth 100000
set_option maxHeartbeats 4000000
theorem c36 (p : Picks) (hp : p.l.length ≤ 100000) : X.call 36 [.ref (.inc 0) 0 0] [.box (encPicks p) true] ⟨.bool (decide (p.l.length ≤ p.n)),[.box (encPicks p) true],[]⟩ := by
  refine spec_of ok Go.Proofs.Tryz.func36 ok36 ?_
  refine (.q (Res.mk (.bool (decide ((↑(List.map encB p.l).length : Int) ≤ (↑p.n : Int)))) [.box (encPicks p) true] []) (by (simp [encPicks,Int.ofNat_le]; done)))
theorem c110 (p : Picks) (hp : p.l.length ≤ 100000) : X.call 110 [.ref (.inc 0) 0 0] [.box (encPicks p) true] ⟨.str p.want.1,[.box (encPicks p.want.2) true],[]⟩ := by
  refine spec_of ok Go.Proofs.Tryz.func110 ok110 ?_
  refine
   (have _hc3 := ((@Tryz.c13 (p) ((10 : Int)) ‹_› (by omega) (by omega))).2.1; have _hc4 := ((@Tryz.c13 (p) ((10 : Int)) ‹_› (by omega) (by omega))).2.2.1; have _hc5 := ((@Tryz.c13 (p) ((10 : Int)) ‹_› (by omega) (by omega))).2.2.2; .c ((@Tryz.c13 (p) ((10 : Int)) ‹_› (by omega) (by omega))).1
   (.i (0 ≤ (p.num 10).fst ∧ (p.num 10).fst < 10)
   (fun _h6 => .em AV.str ([[(42 : UInt8)],[(94 : UInt8),(97 : UInt8)],[(94 : UInt8),(98 : UInt8)],[(64 : UInt8),(49 : UInt8),(61 : UInt8),(53 : UInt8)],[(33 : UInt8),(94 : UInt8),(97 : UInt8)],[(64 : UInt8),(48 : UInt8),(58 : UInt8),(48 : UInt8),(45 : UInt8),(57 : UInt8)],[(33 : UInt8),(42 : UInt8)],[(64 : UInt8),(49 : UInt8),(61 : UInt8),(53 : UInt8),(38 : UInt8),(94 : UInt8),(97 : UInt8)],[(64 : UInt8),(49 : UInt8),(61 : UInt8),(53 : UInt8),(124 : UInt8),(94 : UInt8),(98 : UInt8)],[(33 : UInt8),(64 : UInt8),(49 : UInt8),(61 : UInt8),(53 : UInt8)]]) ((p.num 10).fst.toNat) (by (simp; omega))
   (fun _x7 _hx8 => .q (Res.mk (.str _x7) [.box (.agg [.tree (List.map encB (p.num 10).snd.l),.int .i64 (↑(p.num 10).snd.n : Int)]) true] []) (by (simp_all [Picks.want,wants,encPicks]; done))))
   (fun _h6 => False.elim (by omega))))
theorem c73 (l : List Edge) (e : Edge) (hl : l.length ≤ 1000) : ∃ o : List Edge,X.call 73 [.tree (l.map encEdge),encEdge e] [] ⟨.tree (o.map encEdge),[],[]⟩ ∧ o.length ≤ l.length + 1 := by
  refine spec_ex ok Go.Proofs.Tryz.func73 ok73 ?_
  refine ?_
  refine SatE.pLoop 4 (St.mk [(0,.tree (List.map encEdge l)),(3,.ref (.head 3 0) 0 0),(5,.sref (.head 5 0) 0 0),(6,.bool false),(7,.int .i64 0)] [(.head 3 0,.box (encEdge e) true),
   (.head 5 0,.row 2 [] true true)]) (by kernel_rfl) (fun (p : Nat × Bool × List Edge) => ⟨[(0,.tree (l.map encEdge)),(3,.ref (.head 3 0) 0 0),(5,.sref
   (.head 5 0) 0 p.2.2.length),(6,.bool p.2.1),(7,.int .i64 p.1)],[(.head 3 0,.box (encEdge e) true),
   (.head 5 0,.row 2 (p.2.2.map encEdge) true true)]⟩) (fun p => p.1 ≤ l.length ∧ p.2.2.length ≤ p.1 + p.2.1.toNat) (fun p => l.length - p.1) (0,false,[]) rfl ?_ ?_
  · exact ⟨by simp,by simp⟩
  · rintro ⟨k,put,acc⟩ hI again
    obtain ⟨hk,ha⟩ := hI
    cases put <;> simp only [Bool.toNat_false,Bool.toNat_true] at hk ha
    · refine (.kl encEdge l k (fun _h10 => .T (.em encEdge l k ‹_›
       (fun _x11 _hx12 => SatE.pNodeE (decide (_x11.A = e.A) && (decide (_x11.B = e.B) && Bool.true)) (_x11.A = e.A ∧ _x11.B = e.B ∧ True) (by kernel_rfl) (by simp only [Bool.and_eq_true,decide_eq_true_eq])
       (fun _h13 => .r l (by omega)) (fun _h13 => .T (.T (.T (.T (.eh encEdge _hx12 (.T (SatE.pFin ((0 : Int)) 2 (0) (by kernel_rfl) rfl (by decide) (.T (.T
       (SatE.pFin ((0 : Int)) 2 (0) (by kernel_rfl) rfl (by decide) (.T (.T (.T (.i (e.A < _x11.A) (fun _h14 => .it _h14 (.it _h14 (.it _h14 (.it _h14 (.it _h14 (.it _h14 (.it _h14 (.it _h14 (.it _h14 (.T
       (.it _h14 (.T (.T (.i ((acc.length + 1) * (16 : Nat) ≤ 140737488355328) (fun _h15 => .k (acc.length = (List.map encEdge acc).length) (True) (by simp only [List.length_map]) (fun _h16 => .T
       (.eh encEdge _hx12 (.i ((acc.length + 1 + 1) * (16 : Nat) ≤ 140737488355328)
       (fun _h17 => .et (acc.length + 1 = (List.map encEdge acc ++ [encEdge e]).length) (by simp only [List.length_map,List.length_append,List.length_cons,List.length_nil]) _h16
       (have _w18 := wI64' ((↑k : Int) + (1 : Int)); .A (St.mk [(0,.tree (List.map encEdge l)),(3,.ref (.head 3 0) 0 0),(5,.sref
       (.head 5 0) 0 (acc.length + 1 + 1)),(6,.bool true),(7,.int .i64 (IntKind.i64.wrap ((↑k : Int) + 1)))] [(.head 3 0,.box (encEdge e) true),
       (.head 5 0,.row 2 (List.map encEdge acc ++ [encEdge e] ++ [encEdge _x11]) true true)]) (by simp [encEdge,_w18]) (again ((k + (1 : Nat),Bool.true,acc ++ [e] ++ [_x11])) ⟨(by dsimp only; omega),(by dsimp only; (clear again; (simp; omega)))⟩ (by dsimp only; omega))))
       (fun _h17 => False.elim (by omega))))) (fun _h16 => (_h16 trivial).elim)) (fun _h15 => False.elim (by omega)))))))))))))))) (fun _h14 => .iF _h14 (.iF _h14 (.T (.eh encEdge _hx12 (.iF _h14
       (SatE.pFin ((0 : Int)) 2 (0) (by kernel_rfl) rfl (by decide) (.iF _h14 (.iF _h14 (SatE.pFin ((0 : Int)) 2 (0) (by kernel_rfl) rfl (by decide) (.iF _h14 (.iF _h14 (.iF _h14 (.i (_x11.A = e.A)
       (fun _h19 => .it _h19 (.it _h19 (.T (.eh encEdge _hx12 (.it _h19 (SatE.pFin ((1 : Int)) 2 (1) (by kernel_rfl) rfl (by decide) (.it _h19 (.it _h19
       (SatE.pFin ((1 : Int)) 2 (1) (by kernel_rfl) rfl (by decide) (.it _h19 (.it _h19 (.iF _h14 (.it _h19 (.T (.iF _h14 (.T (.i (e.B < _x11.B)
       (fun _h20 => .i ((acc.length + 1) * (16 : Nat) ≤ 140737488355328) (fun _h21 => .k (acc.length = (List.map encEdge acc).length) (True) (by simp only [List.length_map]) (fun _h22 => .T (.eh encEdge _hx12
       (.i ((acc.length + 1 + 1) * (16 : Nat) ≤ 140737488355328)
       (fun _h23 => .et (acc.length + 1 = (List.map encEdge acc ++ [encEdge e]).length) (by simp only [List.length_map,List.length_append,List.length_cons,List.length_nil]) _h22
       (have _w24 := wI64' ((↑k : Int) + (1 : Int)); .A (St.mk [(0,.tree (List.map encEdge l)),(3,.ref (.head 3 0) 0 0),(5,.sref
       (.head 5 0) 0 (acc.length + 1 + 1)),(6,.bool true),(7,.int .i64 (IntKind.i64.wrap ((↑k : Int) + 1)))] [(.head 3 0,.box (encEdge e) true),
       (.head 5 0,.row 2 (List.map encEdge acc ++ [encEdge e] ++ [encEdge _x11]) true true)]) (by simp [encEdge,_w24]) (again ((k + (1 : Nat),Bool.true,acc ++ [e] ++ [_x11])) ⟨(by dsimp only; omega),(by dsimp only; (clear again; (simp; omega)))⟩ (by dsimp only; omega))))
       (fun _h23 => False.elim (by omega))))) (fun _h22 => (_h22 trivial).elim)) (fun _h21 => False.elim (by omega))) (fun _h20 => .T (.eh encEdge _hx12 (.i ((acc.length + 1) * (16 : Nat) ≤ 140737488355328)
       (fun _h25 => .k (acc.length = (List.map encEdge acc).length) (True) (by simp only [List.length_map])
       (fun _h26 => have _w27 := wI64' ((↑k : Int) + (1 : Int)); .A (St.mk [(0,.tree (List.map encEdge l)),(3,.ref (.head 3 0) 0 0),(5,.sref
       (.head 5 0) 0 (acc.length + 1)),(6,.bool false),(7,.int .i64 (IntKind.i64.wrap ((↑k : Int) + 1)))] [(.head 3 0,.box (encEdge e) true),
       (.head 5 0,.row 2 (List.map encEdge acc ++ [encEdge _x11]) true true)]) (by simp [encEdge,_w27]) (again ((k + (1 : Nat),Bool.false,acc ++ [_x11])) ⟨(by dsimp only; omega),(by dsimp only; (clear again; (simp; omega)))⟩ (by dsimp only; omega)))
       (fun _h26 => (_h26 trivial).elim)) (fun _h25 => False.elim (by omega)))))))))))))))))))))) (fun _h19 => .iF _h19 (.iF _h19 (.iF _h19 (.iF _h19 (.iF _h19 (.iF _h19 (.iF _h19 (.iF _h14 (.iF _h19 (.T
       (.iF _h14 (.T (.F (.T (.eh encEdge _hx12 (.i ((acc.length + 1) * (16 : Nat) ≤ 140737488355328) (fun _h28 => .k (acc.length = (List.map encEdge acc).length) (True) (by simp only [List.length_map])
       (fun _h29 => have _w30 := wI64' ((↑k : Int) + (1 : Int)); .A (St.mk [(0,.tree (List.map encEdge l)),(3,.ref (.head 3 0) 0 0),(5,.sref
       (.head 5 0) 0 (acc.length + 1)),(6,.bool false),(7,.int .i64 (IntKind.i64.wrap ((↑k : Int) + 1)))] [(.head 3 0,.box (encEdge e) true),
       (.head 5 0,.row 2 (List.map encEdge acc ++ [encEdge _x11]) true true)]) (by simp [encEdge,_w30]) (again ((k + (1 : Nat),Bool.false,acc ++ [_x11])) ⟨(by dsimp only; omega),(by dsimp only; (clear again; (simp; omega)))⟩ (by dsimp only; omega)))
       (fun _h29 => (_h29 trivial).elim)) (fun _h28 => False.elim (by omega)))))))))))))))))))))))))))))))))))))))))))))))) (fun _h10 => .T (.i ((acc.length + 1) * (16 : Nat) ≤ 140737488355328)
       (fun _h31 => .k (acc.length = (List.map encEdge acc).length) (True) (by simp only [List.length_map])
       (fun _h32 => have _w33 : List.take (acc.length + (1 : Nat)) (List.map encEdge acc ++ [encEdge e]) = List.map encEdge acc ++ [encEdge e] := List.take_of_length_le (by simp); .q (Res.mk
       (.tree (List.take (acc.length + 1) (List.map encEdge acc ++ [encEdge e]))) [] []) ⟨acc ++ [e],(by simp [_w33]),(by (clear again; (simp; omega)))⟩) (fun _h32 => (_h32 trivial).elim))
       (fun _h31 => False.elim (by omega)))))
    · refine (.kl encEdge l k (fun _h10 => .T (.em encEdge l k ‹_›
       (fun _x11 _hx12 => SatE.pNodeE (decide (_x11.A = e.A) && (decide (_x11.B = e.B) && Bool.true)) (_x11.A = e.A ∧ _x11.B = e.B ∧ True) (by kernel_rfl) (by simp only [Bool.and_eq_true,decide_eq_true_eq])
       (fun _h13 => .r l (by omega)) (fun _h13 => .F (.F (.F (.F (.F (.F (.F (.F (.F (.F (.F (.F (.T (.eh encEdge _hx12 (.i ((acc.length + 1) * (16 : Nat) ≤ 140737488355328)
       (fun _h14 => .k (acc.length = (List.map encEdge acc).length) (True) (by simp only [List.length_map])
       (fun _h15 => have _w16 := wI64' ((↑k : Int) + (1 : Int)); .A (St.mk [(0,.tree (List.map encEdge l)),(3,.ref (.head 3 0) 0 0),(5,.sref
       (.head 5 0) 0 (acc.length + 1)),(6,.bool true),(7,.int .i64 (IntKind.i64.wrap ((↑k : Int) + 1)))] [(.head 3 0,.box (encEdge e) true),
       (.head 5 0,.row 2 (List.map encEdge acc ++ [encEdge _x11]) true true)]) (by simp [encEdge,_w16]) (again ((k + (1 : Nat),Bool.true,acc ++ [_x11])) ⟨(by dsimp only; omega),(by dsimp only; (clear again; (simp; omega)))⟩ (by dsimp only; omega)))
       (fun _h15 => (_h15 trivial).elim)) (fun _h14 => False.elim (by omega)))))))))))))))))))) (fun _h10 => .F
       (have _w17 : List.take acc.length (List.map encEdge acc) = List.map encEdge acc := List.take_of_length_le (by simp); .q (Res.mk
       (.tree (List.take acc.length (List.map encEdge acc))) [] []) ⟨acc,(by simp only [_w17]),(by omega)⟩)))
end Go.Ab.Tryz
