/- Package cardamomplay: what is picked, as plain Lean. -/
import Derived.Test.YtmppanboolejjaaGreatPicks
import Derived.Test.YtmppanboolejjaaGreatG3
import Derived.Test.YtmppanboolejjaaGreatG3
namespace Go.Ab.Tryz
open Go
set_option maxRecDepth 100000
set_option maxHeartbeats 4000000
theorem c36 (p : Picks) (hp : p.l.length ≤ 100000) : X.call 36 [.ref (.inc 0) 0 0] [.box (encPicks p) true] ⟨.bool (decide (p.l.length ≤ p.n)),[.box (encPicks p) true],[]⟩ := by
  refine spec_of ok Go.Proofs.Tryz.func36 ok36 ?_
  refine (.q (Res.mk (.bool (decide ((↑(List.map encB p.l).length : Int) ≤ (↑p.n : Int)))) [.box (encPicks p) true] []) (by (simp [encPicks,Int.ofNat_le]; done)))
theorem c110 (p : Picks) (hp : p.l.length ≤ 100000) : X.call 110 [.ref (.inc 0) 0 0] [.box (encPicks p) true] ⟨.str p.want.1,[.box (encPicks p.want.2) true],[]⟩ := by
  refine spec_of ok Go.Proofs.Tryz.func110 ok110 ?_
  refine
   (have _hc3 := ((@Tryz.c13 (p) ((10 : Int)) ‹_› (by omega) (by omega))).2.1; have _hc4 := ((@Tryz.c13 (p) ((10 : Int)) ‹_› (by omega) (by omega))).2.2.1; have _hc5 := ((@Tryz.c13 (p) ((10 : Int)) ‹_› (by omega) (by omega))).2.2.2; .c ((@Tryz.c13 (p) ((10 : Int)) ‹_› (by omega) (by omega))).1
   (.i (0 ≤ (p.num 10).fst ∧ (p.num 10).fst < 10)
   (fun _h6 => .em AV.str ([[(42 : UInt8)],[(94 : UInt8),(97 : UInt8)],[(94 : UInt8),(98 : UInt8)],[(64 : UInt8),(49 : UInt8),(61 : UInt8),(53 : UInt8)],[(33 : UInt8),(94 : UInt8),(97 : UInt8)],[(64 : UInt8),(48 : UInt8),(58 : UInt8),(48 : UInt8),(45 : UInt8),(57 : UInt8)],[(33 : UInt8),(42 : UInt8)],[(64 : UInt8),(49 : UInt8),(61 : UInt8),(53 : UInt8),(38 : UInt8),(94 : UInt8),(97 : UInt8)],[(64 : UInt8),(49 : UInt8),(61 : UInt8),(53 : UInt8),(124 : UInt8),(94 : UInt8),(98 : UInt8)],[(33 : UInt8),(64 : UInt8),(49 : UInt8),(61 : UInt8),(53 : UInt8)]]) ((p.num 10).fst.toNat) (by (simp; omega))
   (fun _x7 _hx8 => .q (Res.mk (.str _x7) [.box (.agg [.tree (List.map encB (p.num 10).snd.l),.int .i64 (↑(p.num 10).snd.n : Int)]) true] []) (by (simp_all [Picks.want,wants,encPicks]; done))))
   (fun _h6 => False.elim (by omega))))
theorem edge_eq {x e : Edge} (h : x.A = e.A ∧ x.B = e.B) : x = e := by cases x; cases e; simp only at h; rw [h.1,h.2]
theorem c73 (l : List Edge) (e : Edge) (hl : l.length ≤ 1000) (hp : l.Pairwise edLt) : X.call 73 [.tree (l.map encEdge),encEdge e] [] ⟨.tree ((joinE l e).map encEdge),[],[]⟩ := by
  refine spec_of ok Go.Proofs.Tryz.func73 ok73 ?_
  refine ?_
  refine Sat.pLoop 4 (St.mk [(0,.tree (List.map encEdge l)),(3,.ref (.head 3 0) 0 0),(5,.sref (.head 5 0) 0 0),(6,.bool false),(7,.int .i64 0)] [(.head 3 0,.box (encEdge e) true),
   (.head 5 0,.row 2 [] true true)]) (by kernel_rfl) (fun (p : Nat × Bool × List Edge) => ⟨[(0,.tree (l.map encEdge)),(3,.ref (.head 3 0) 0 0),(5,.sref
   (.head 5 0) 0 p.2.2.length),(6,.bool p.2.1),(7,.int .i64 p.1)],[(.head 3 0,.box (encEdge e) true),
   (.head 5 0,.row 2 (p.2.2.map encEdge) true true)]⟩) (fun p => p.1 ≤ l.length ∧ p.2.2.length ≤ p.1 + p.2.1.toNat ∧ Joining l e p.1 p.2.1 p.2.2) (fun p => l.length - p.1) (0,false,[]) rfl ?_ ?_
  · exact ⟨by simp,by simp,Joining.start l e⟩
  · rintro ⟨k,put,acc⟩ hI again
    obtain ⟨hk,ha,hJ⟩ := hI
    cases put <;> simp only [Bool.toNat_false,Bool.toNat_true] at hk ha hJ
    · by_cases hkl : k < l.length
      · obtain ⟨x,hx⟩ : ∃ x,l[k]? = some x := ⟨l[k],by simp⟩
        by_cases he : x.A = e.A ∧ x.B = e.B
        · have hsame := hJ.same (by rw [hx,edge_eq he])
          have he1 := he.1
          have he2 := he.2
          rw [← hsame]
          clear hJ hsame
          refine (.el encEdge hkl (.T (.eh encEdge hx
           (Sat.pNodeE (decide (x.A = e.A) && (decide (x.B = e.B) && Bool.true)) (x.A = e.A ∧ x.B = e.B ∧ True) (by kernel_rfl) (by simp only [Bool.and_eq_true,decide_eq_true_eq]) (fun _h19 => .r)
           (fun _h19 => False.elim (by (clear again; (exact absurd (show x.A = e.A ∧ x.B = e.B ∧ True from ⟨he1,he2,trivial⟩) ‹_›))))))))
        · have hne : x ≠ e := fun h => he (by rw [h]; exact ⟨rfl,rfl⟩)
          by_cases hlt : edLt e x
          · have hput := hJ.put hp hx hne hlt
            unfold edLt at hlt
            clear hJ
            refine (.el encEdge hkl (.T (.eh encEdge hx
             (Sat.pNodeE (decide (x.A = e.A) && (decide (x.B = e.B) && Bool.true)) (x.A = e.A ∧ x.B = e.B ∧ True) (by kernel_rfl) (by simp only [Bool.and_eq_true,decide_eq_true_eq])
             (fun _h19 => False.elim (by omega)) (fun _h19 => .T (.T (.T (.T (.eh encEdge hx (.T (Sat.pFin ((0 : Int)) 2 (0) (by kernel_rfl) rfl (by decide) (.T (.T
             (Sat.pFin ((0 : Int)) 2 (0) (by kernel_rfl) rfl (by decide) (.T (.T (.T (.i (e.A < x.A) (fun _h20 => .it _h20 (.it _h20 (.it _h20 (.it _h20 (.it _h20 (.it _h20 (.it _h20 (.it _h20 (.it _h20 (.T
             (.it _h20 (.T (.T (.i ((acc.length + 1) * (16 : Nat) ≤ 140737488355328) (fun _h21 => .k (acc.length = (List.map encEdge acc).length) (True) (by simp only [List.length_map]) (fun _h22 => .T
             (.eh encEdge hx (.i ((acc.length + 1 + 1) * (16 : Nat) ≤ 140737488355328)
             (fun _h23 => .et (acc.length + 1 = (List.map encEdge acc ++ [encEdge e]).length) (by simp only [List.length_map,List.length_append,List.length_cons,List.length_nil]) _h22
             (have _w24 := wI64' ((↑k : Int) + (1 : Int)); .A (St.mk [(0,.tree (List.map encEdge l)),(3,.ref (.head 3 0) 0 0),(5,.sref
             (.head 5 0) 0 (acc.length + 1 + 1)),(6,.bool true),(7,.int .i64 (IntKind.i64.wrap ((↑k : Int) + 1)))] [(.head 3 0,.box (encEdge e) true),
             (.head 5 0,.row 2 (List.map encEdge acc ++ [encEdge e] ++ [encEdge x]) true true)]) (by simp [encEdge,_w24]) (again ((k + (1 : Nat),Bool.true,acc ++ [e] ++ [x])) ⟨(by dsimp only; omega),⟨(by dsimp only; (clear again; (simp; omega))),(by dsimp only; omega)⟩⟩ (by dsimp only; omega))))
             (fun _h23 => False.elim (by omega))))) (fun _h22 => (_h22 trivial).elim)) (fun _h21 => False.elim (by omega)))))))))))))))) (fun _h20 => .iF _h20 (.iF _h20 (.T (.eh encEdge hx (.iF _h20
             (Sat.pFin ((0 : Int)) 2 (0) (by kernel_rfl) rfl (by decide) (.iF _h20 (.iF _h20 (Sat.pFin ((0 : Int)) 2 (0) (by kernel_rfl) rfl (by decide) (.iF _h20 (.iF _h20 (.iF _h20 (.i (x.A = e.A)
             (fun _h25 => .it _h25 (.it _h25 (.T (.eh encEdge hx (.it _h25 (Sat.pFin ((1 : Int)) 2 (1) (by kernel_rfl) rfl (by decide) (.it _h25 (.it _h25 (Sat.pFin ((1 : Int)) 2 (1) (by kernel_rfl) rfl (by decide)
             (.it _h25 (.it _h25 (.iF _h20 (.it _h25 (.T (.iF _h20 (.T (.i (e.B < x.B) (fun _h26 => .i ((acc.length + 1) * (16 : Nat) ≤ 140737488355328)
             (fun _h27 => .k (acc.length = (List.map encEdge acc).length) (True) (by simp only [List.length_map]) (fun _h28 => .T (.eh encEdge hx (.i ((acc.length + 1 + 1) * (16 : Nat) ≤ 140737488355328)
             (fun _h29 => .et (acc.length + 1 = (List.map encEdge acc ++ [encEdge e]).length) (by simp only [List.length_map,List.length_append,List.length_cons,List.length_nil]) _h28
             (have _w30 := wI64' ((↑k : Int) + (1 : Int)); .A (St.mk [(0,.tree (List.map encEdge l)),(3,.ref (.head 3 0) 0 0),(5,.sref
             (.head 5 0) 0 (acc.length + 1 + 1)),(6,.bool true),(7,.int .i64 (IntKind.i64.wrap ((↑k : Int) + 1)))] [(.head 3 0,.box (encEdge e) true),
             (.head 5 0,.row 2 (List.map encEdge acc ++ [encEdge e] ++ [encEdge x]) true true)]) (by simp [encEdge,_w30]) (again ((k + (1 : Nat),Bool.true,acc ++ [e] ++ [x])) ⟨(by dsimp only; omega),⟨(by dsimp only; (clear again; (simp; omega))),(by dsimp only; omega)⟩⟩ (by dsimp only; omega))))
             (fun _h29 => False.elim (by omega))))) (fun _h28 => (_h28 trivial).elim)) (fun _h27 => False.elim (by omega))) (fun _h26 => False.elim (by omega)))))))))))))))))))
             (fun _h25 => False.elim (by omega)))))))))))))))))))))))))))))))))
          · have hnext := hJ.next hx hne hlt
            unfold edLt at hlt
            clear hJ
            refine (.el encEdge hkl (.T (.eh encEdge hx
             (Sat.pNodeE (decide (x.A = e.A) && (decide (x.B = e.B) && Bool.true)) (x.A = e.A ∧ x.B = e.B ∧ True) (by kernel_rfl) (by simp only [Bool.and_eq_true,decide_eq_true_eq])
             (fun _h19 => False.elim (by omega)) (fun _h19 => .T (.T (.T (.T (.eh encEdge hx (.T (Sat.pFin ((0 : Int)) 2 (0) (by kernel_rfl) rfl (by decide) (.T (.T
             (Sat.pFin ((0 : Int)) 2 (0) (by kernel_rfl) rfl (by decide) (.T (.T (.T (.i (e.A < x.A) (fun _h20 => False.elim (by omega)) (fun _h20 => .iF _h20 (.iF _h20 (.T (.eh encEdge hx (.iF _h20
             (Sat.pFin ((0 : Int)) 2 (0) (by kernel_rfl) rfl (by decide) (.iF _h20 (.iF _h20 (Sat.pFin ((0 : Int)) 2 (0) (by kernel_rfl) rfl (by decide) (.iF _h20 (.iF _h20 (.iF _h20 (.i (x.A = e.A)
             (fun _h21 => .it _h21 (.it _h21 (.T (.eh encEdge hx (.it _h21 (Sat.pFin ((1 : Int)) 2 (1) (by kernel_rfl) rfl (by decide) (.it _h21 (.it _h21 (Sat.pFin ((1 : Int)) 2 (1) (by kernel_rfl) rfl (by decide)
             (.it _h21 (.it _h21 (.iF _h20 (.it _h21 (.T (.iF _h20 (.T (.i (e.B < x.B) (fun _h22 => False.elim (by omega)) (fun _h22 => .T (.eh encEdge hx (.i ((acc.length + 1) * (16 : Nat) ≤ 140737488355328)
             (fun _h23 => .k (acc.length = (List.map encEdge acc).length) (True) (by simp only [List.length_map])
             (fun _h24 => have _w25 := wI64' ((↑k : Int) + (1 : Int)); .A (St.mk [(0,.tree (List.map encEdge l)),(3,.ref (.head 3 0) 0 0),(5,.sref
             (.head 5 0) 0 (acc.length + 1)),(6,.bool false),(7,.int .i64 (IntKind.i64.wrap ((↑k : Int) + 1)))] [(.head 3 0,.box (encEdge e) true),
             (.head 5 0,.row 2 (List.map encEdge acc ++ [encEdge x]) true true)]) (by simp [encEdge,_w25]) (again ((k + (1 : Nat),Bool.false,acc ++ [x])) ⟨(by dsimp only; omega),⟨(by dsimp only; (clear again; (simp; omega))),(by dsimp only; omega)⟩⟩ (by dsimp only; omega)))
             (fun _h24 => (_h24 trivial).elim)) (fun _h23 => False.elim (by omega)))))))))))))))))))))) (fun _h21 => .iF _h21 (.iF _h21 (.iF _h21 (.iF _h21 (.iF _h21 (.iF _h21 (.iF _h21 (.iF _h20 (.iF _h21 (.T
             (.iF _h20 (.T (.F (.T (.eh encEdge hx (.i ((acc.length + 1) * (16 : Nat) ≤ 140737488355328) (fun _h26 => .k (acc.length = (List.map encEdge acc).length) (True) (by simp only [List.length_map])
             (fun _h27 => have _w28 := wI64' ((↑k : Int) + (1 : Int)); .A (St.mk [(0,.tree (List.map encEdge l)),(3,.ref (.head 3 0) 0 0),(5,.sref
             (.head 5 0) 0 (acc.length + 1)),(6,.bool false),(7,.int .i64 (IntKind.i64.wrap ((↑k : Int) + 1)))] [(.head 3 0,.box (encEdge e) true),
             (.head 5 0,.row 2 (List.map encEdge acc ++ [encEdge x]) true true)]) (by simp [encEdge,_w28]) (again ((k + (1 : Nat),Bool.false,acc ++ [x])) ⟨(by dsimp only; omega),⟨(by dsimp only; (clear again; (simp; omega))),(by dsimp only; omega)⟩⟩ (by dsimp only; omega)))
             (fun _h27 => (_h27 trivial).elim)) (fun _h26 => False.elim (by omega)))))))))))))))))))))))))))))))))))))))))))))))))
      · have hlast := hJ.last (by omega)
        clear hJ
        refine (.en encEdge hkl (.T (.i ((acc.length + 1) * (16 : Nat) ≤ 140737488355328) (fun _h14 => .k (acc.length = (List.map encEdge acc).length) (True) (by simp only [List.length_map])
         (fun _h15 => have _w16 : List.take (acc.length + (1 : Nat)) (List.map encEdge acc ++ [encEdge e]) = List.map encEdge acc ++ [encEdge e] := List.take_of_length_le (by simp); .q (Res.mk
         (.tree (List.take (acc.length + 1) (List.map encEdge acc ++ [encEdge e]))) [] []) (by (clear again; (rw [← hlast]; simp [List.map_append,List.take_of_length_le]; done))))
         (fun _h15 => (_h15 trivial).elim)) (fun _h14 => False.elim (by omega)))))
    · by_cases hkl : k < l.length
      · obtain ⟨x,hx⟩ : ∃ x,l[k]? = some x := ⟨l[k],by simp⟩
        have hne : ¬ (x.A = e.A ∧ x.B = e.B) := fun h => hJ.on_ne hx (edge_eq h)
        have hon := hJ.on hx
        clear hJ
        refine (.el encEdge hkl (.T (.eh encEdge hx
         (Sat.pNodeE (decide (x.A = e.A) && (decide (x.B = e.B) && Bool.true)) (x.A = e.A ∧ x.B = e.B ∧ True) (by kernel_rfl) (by simp only [Bool.and_eq_true,decide_eq_true_eq])
         (fun _h17 => False.elim (by omega)) (fun _h17 => .F (.F (.F (.F (.F (.F (.F (.F (.F (.F (.F (.F (.T (.eh encEdge hx (.i ((acc.length + 1) * (16 : Nat) ≤ 140737488355328)
         (fun _h18 => .k (acc.length = (List.map encEdge acc).length) (True) (by simp only [List.length_map])
         (fun _h19 => have _w20 := wI64' ((↑k : Int) + (1 : Int)); .A (St.mk [(0,.tree (List.map encEdge l)),(3,.ref (.head 3 0) 0 0),(5,.sref
         (.head 5 0) 0 (acc.length + 1)),(6,.bool true),(7,.int .i64 (IntKind.i64.wrap ((↑k : Int) + 1)))] [(.head 3 0,.box (encEdge e) true),
         (.head 5 0,.row 2 (List.map encEdge acc ++ [encEdge x]) true true)]) (by simp [encEdge,_w20]) (again ((k + (1 : Nat),Bool.true,acc ++ [x])) ⟨(by dsimp only; omega),⟨(by dsimp only; (clear again; (simp; omega))),(by dsimp only; omega)⟩⟩ (by dsimp only; omega)))
         (fun _h19 => (_h19 trivial).elim)) (fun _h18 => False.elim (by omega)))))))))))))))))))))
      · have hdone := hJ.done (by omega)
        rw [← hdone]
        clear hJ hdone
        refine (.en encEdge hkl (.F (have _w13 : List.take acc.length (List.map encEdge acc) = List.map encEdge acc := List.take_of_length_le (by simp); .q (Res.mk
         (.tree (List.take acc.length (List.map encEdge acc))) [] []) (by (clear again; simp_all)))))
end Go.Ab.Tryz
