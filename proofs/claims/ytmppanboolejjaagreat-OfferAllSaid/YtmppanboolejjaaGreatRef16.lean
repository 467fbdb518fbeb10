/- Package cardamomref16: numbers and texts as bytes, as plain Lean. -/
import Derived.Test.YtmppanboolejjaaGreatRef1f
import Derived.Test.YtmppanboolejjaaGreatG3
namespace Go.Ab.Tryz
open Go
set_option maxRecDepth 100000
set_option maxHeartbeats 4000000
theorem c120 (b : Bool) : X.call 120 [.bool b] [] ⟨.int .i64 b.toNat,[],[]⟩ := by
  refine spec_of ok Go.Proofs.Tryz.func120 ok120 ?_
  refine (.n b (fun _h2 => .q (Res.mk (.int .i64 1) [] []) (by simp_all)) (fun _h2 => .q (Res.mk (.int .i64 0) [] []) (by simp_all)))
theorem putNum_call (b : List UInt8) (v : Nat) (hb : b.length ≤ 100000) (hv : v ≤ 1000000000) : X.call 82 [.tree (b.map encB),.int .i64 v] [] ⟨.sref (.out 0) 0 (b ++ numB v).length,[],[.row 1 ((b ++ numB v).map encB) true true]⟩ := by
  refine spec_of ok Go.Proofs.Tryz.func82 ok82 ?_
  refine (.z encB b 1 (fun _ => rfl) (.k ((0 + (List.map encB b).length) * (1 : Nat) ≤ 140737488355328) ((0 + b.length) * (1 : Nat) ≤ 140737488355328) (by simp only [List.length_map]) (fun _h5 => .T ?_)
   (fun _h5 => False.elim (by omega))))
  have hn := numB_len v hv
  refine Sat.pLoop 2 (St.mk [(1,.int .i64 (↑v : Int)),(5,.sref
   (.head 5 0) 0 (0 + (List.map encB b).length))] [(.head 5 0,.row 1 (List.map encB b) true true)]) (by kernel_rfl) (fun (p : Nat × List UInt8) => ⟨[(1,.int .i64 p.1),(5,.sref
   (.head 5 0) 0 p.2.length)],[(.head 5 0,.row 1 (p.2.map encB) true true)]⟩) (fun p => p.1 ≤ 1000000000 ∧ p.2.length ≤ 100005 ∧ p.2 ++ numB p.1 = b ++ numB v) (fun p => p.1) (v,b) (by simp) ?_ ?_
  · exact ⟨by omega,by simp; omega,rfl⟩
  · rintro ⟨w,acc⟩ hI again
    obtain ⟨h1,h2,h3⟩ := hI
    simp only at h1 h2 h3
    have h4 := congrArg List.length h3
    simp only [List.length_append] at h4
    have h5 : 0 < (numB w).length := by rw [numB]; split <;> simp
    refine (.k (128 ≤ (↑w : Int)) (128 ≤ w) (by simp only [ciLe]) (fun _h17 => .T (.i ((acc.length + 1) * (1 : Nat) ≤ 140737488355328)
     (fun _h18 => .k (acc.length = (List.map encB acc).length) (True) (by simp only [List.length_map]) (fun _h19 => .T
     (have _w20 : (↑w : Int).tdiv (128 : Int) = (↑w : Int) / (128 : Int) := Int.tdiv_eq_ediv_of_nonneg (by omega); have _w21 := wI64' ((↑w : Int) / (128 : Int)); have _w22 : (↑w : Int).tmod (128 : Int) = (↑w : Int) % (128 : Int) := Int.tmod_eq_emod_of_nonneg (by omega); have _w23 := wI64' ((↑w : Int) % (128 : Int) + (128 : Int)); have _w24 := wU8' ((↑w : Int) % (128 : Int) + (128 : Int)); .A (St.mk [(1,.int .i64 (IntKind.i64.wrap ((↑w : Int).tdiv 128))),(5,.sref
     (.head 5 0) 0 (acc.length + 1))] [(.head 5 0,.row 1 (List.map encB acc ++ [.int .u8 (IntKind.u8.wrap (IntKind.i64.wrap ((↑w : Int).tmod 128 + 128)))]) true true)]) (by (clear again; (simp [encI,encWord,encRd,encBr,encB_fun,encPicks,encAttr,encHead,encStamp,encVersion,encView,encRepl,encGossip,encGram,encEdge,encStep,encMesh,List.map_append,List.map_cons,List.map_nil,_w24,_w23,_w22,_w21,_w20]; omega))) (again ((w / (128 : Nat),acc ++ [UInt8.ofNat (w % (128 : Nat) + (128 : Nat))])) ⟨(by dsimp only; omega),⟨(by dsimp only; (clear again; (simp; omega))),(by dsimp only; (clear again; (rw [numB_big (by omega)] at h3; simpa using h3)))⟩⟩ (by dsimp only; omega))))
     (fun _h19 => (_h19 trivial).elim)) (fun _h18 => False.elim (by omega)))) (fun _h17 => .i ((acc.length + 1) * (1 : Nat) ≤ 140737488355328)
     (fun _h25 => .k (acc.length = (List.map encB acc).length) (True) (by simp only [List.length_map]) (fun _h26 => have _w27 := wU8' (↑w : Int); .q (Res.mk (.sref
     (.out 0) 0 (acc.length + 1)) [] [.row 1 (List.map encB acc ++ [.int .u8 (IntKind.u8.wrap (↑w : Int))]) true true]) (by (clear again; (rw [← h3,numB_small (by omega)]; simp [encB]; omega))))
     (fun _h26 => (_h26 trivial).elim)) (fun _h25 => False.elim (by omega))))
theorem c82 (b : List UInt8) (v : Int) (hb : b.length ≤ 100000) (h0 : 0 ≤ v) (hv : v ≤ 1000000000) : X.call 82 [.tree (b.map encB),.int .i64 v] [] ⟨.sref (.out 0) 0 (b ++ numB v.toNat).length,[],[.row 1 ((b ++ numB v.toNat).map encB) true true]⟩ ∧ (b ++ numB v.toNat).length ≤ b.length + 5 := by
  obtain ⟨n,rfl⟩ := Int.eq_ofNat_of_zero_le h0
  exact ⟨putNum_call b n hb (by omega),by have := numB_len n (by omega); simp only [List.length_append,Int.toNat_natCast]; omega⟩
theorem c121 (b : List UInt8) (hb : b.length ≤ 100000) : ∃ p : Int × Nat × Bool,X.call 121 [.tree (b.map encB)] [] ⟨.tuple [.int .i64 p.1,.int .i64 p.2.1,.bool p.2.2],[],[]⟩ ∧ 0 ≤ p.1 ∧ p.1 ≤ 1000000000000 ∧ p.2.1 ≤ b.length ∧ (p.2.2 = true → 0 < p.2.1) := by
  refine spec_ex ok Go.Proofs.Tryz.func121 ok121 ?_
  refine ?_
  refine SatE.pLoop 3 (St.mk [(0,.tree (List.map encB b)),(5,.int .i64 0),(6,.int .i64 1),(7,.int .i64 0)] []) (by kernel_rfl) (fun (p : Nat × Int × Int) => ⟨[(0,.tree (b.map encB)),(5,.int .i64 p.2.1),(6,.int .i64 p.2.2),(7,.int .i64 p.1)],[]⟩) (fun p => p.1 ≤ b.length ∧ ((p.1 = 0 ∧ p.2.2 = 1 ∧ p.2.1 = 0) ∨ (p.1 = 1 ∧ p.2.2 = 128 ∧ 0 ≤ p.2.1 ∧ p.2.1 < 128) ∨ (p.1 = 2 ∧ p.2.2 = 16384 ∧ 0 ≤ p.2.1 ∧ p.2.1 < 16384) ∨ (p.1 = 3 ∧ p.2.2 = 2097152 ∧ 0 ≤ p.2.1 ∧ p.2.1 < 2097152) ∨ (p.1 = 4 ∧ p.2.2 = 268435456 ∧ 0 ≤ p.2.1 ∧ p.2.1 < 268435456) ∨ (p.1 = 5 ∧ p.2.2 = 34359738368 ∧ 0 ≤ p.2.1 ∧ p.2.1 < 34359738368))) (fun p => 5 - p.1) (0,0,1) rfl ?_ ?_
  · exact ⟨by omega,.inl ⟨rfl,rfl,rfl⟩⟩
  · rintro ⟨k,v,y⟩ hI again
    obtain ⟨h1,h2⟩ := hI
    simp only at h1 h2
    rcases h2 with ⟨rfl,rfl,rfl⟩ | ⟨rfl,rfl,h2,h3⟩ | ⟨rfl,rfl,h2,h3⟩ | ⟨rfl,rfl,h2,h3⟩ | ⟨rfl,rfl,h2,h3⟩ | ⟨rfl,rfl,h2,h3⟩
    · refine (.k (0 < (↑(List.map encB b).length : Int)) (0 < b.length) (by simp only [List.length_map,ciLt])
       (fun _h14 => .et (0 < (↑(List.map encB b).length : Int)) (by simp only [List.length_map,ciLt]) _h14 (.et (0 < (↑(List.map encB b).length : Int)) (by simp only [List.length_map,ciLt]) _h14 (.T (.T
       (.em encB b 0 ‹_› (fun _x15 _hx16 => .T (.T (.eh encB _hx16 (have _u17 : _x15.toNat < (256 : Nat) := UInt8.toNat_lt _; .k ((↑_x15.toNat : Int) < 128) (_x15.toNat < 128) (by simp only [icLt])
       (fun _h18 => .F (.F (.F (.F (.F (.F (.F
       (have _w19 : (↑_x15.toNat : Int).tmod (128 : Int) = (↑_x15.toNat : Int) % (128 : Int) := Int.tmod_eq_emod_of_nonneg (by omega); have _w20 := wI64' ((↑_x15.toNat : Int) % (128 : Int)); have _w21 := wI64' ((↑_x15.toNat : Int) % (128 : Int) * (1 : Int)); have _w22 := wI64' ((0 : Int) + (↑_x15.toNat : Int) % (128 : Int) * (1 : Int)); have _w23 := wI64' ((0 : Int) + (1 : Int)); .q (Res.mk (AV.tuple [.int .i64 (IntKind.i64.wrap (0 + IntKind.i64.wrap (IntKind.i64.wrap ((↑_x15.toNat : Int).tmod 128) * 1))),.int .i64 (IntKind.i64.wrap (0 + 1)),.bool true]) [] []) ⟨((0 : Int) + (↑_x15.toNat : Int) % (128 : Int) * (1 : Int),(0 : Nat) + (1 : Nat),Bool.true),(by (clear again; simp_all)),⟨(by dsimp only; omega),⟨(by dsimp only; omega),⟨(by dsimp only; (clear again; trivial)),(by dsimp only; (clear again; trivial))⟩⟩⟩⟩))))))))
       (fun _h18 => have _w24 : (↑_x15.toNat : Int).tmod (128 : Int) = (↑_x15.toNat : Int) % (128 : Int) := Int.tmod_eq_emod_of_nonneg (by omega); have _w25 := wI64' ((↑_x15.toNat : Int) % (128 : Int)); have _w26 := wI64' ((↑_x15.toNat : Int) % (128 : Int) * (1 : Int)); have _w27 := wI64' ((0 : Int) + (↑_x15.toNat : Int) % (128 : Int) * (1 : Int)); have _w28 := wI64' ((1 : Int) * (128 : Int)); have _w29 := wI64' ((0 : Int) + (1 : Int)); .A (St.mk [(0,.tree (List.map encB b)),(5,.int .i64 (IntKind.i64.wrap (0 + IntKind.i64.wrap (IntKind.i64.wrap ((↑_x15.toNat : Int).tmod 128) * 1)))),(6,.int .i64 (IntKind.i64.wrap (1 * 128))),(7,.int .i64 (IntKind.i64.wrap (0 + 1)))] []) (by (clear again; simp_all)) (again (((0 : Nat) + (1 : Nat),(0 : Int) + (↑_x15.toNat : Int) % (128 : Int) * (1 : Int),(1 : Int) * (128 : Int))) ⟨(by dsimp only; omega),(by dsimp only; omega)⟩ (by dsimp only; omega))))))))))))
       (fun _h14 => .eF (0 < (↑(List.map encB b).length : Int)) (by simp only [List.length_map,ciLt]) _h14 (.eF (0 < (↑(List.map encB b).length : Int)) (by simp only [List.length_map,ciLt]) _h14 (.F
       (.r (0,0,false) ⟨(by dsimp only; (clear again; trivial)),⟨(by dsimp only; (clear again; trivial)),⟨(by dsimp only; (clear again; trivial)),(by dsimp only; (clear again; trivial))⟩⟩⟩)))))
    · refine (.k (1 < (↑(List.map encB b).length : Int)) (1 < b.length) (by simp only [List.length_map,ciLt])
       (fun _h18 => .et (1 < (↑(List.map encB b).length : Int)) (by simp only [List.length_map,ciLt]) _h18 (.et (1 < (↑(List.map encB b).length : Int)) (by simp only [List.length_map,ciLt]) _h18 (.T (.T
       (.em encB b 1 ‹_› (fun _x19 _hx20 => .T (.T (.eh encB _hx20 (have _u21 : _x19.toNat < (256 : Nat) := UInt8.toNat_lt _; .k ((↑_x19.toNat : Int) < 128) (_x19.toNat < 128) (by simp only [icLt])
       (fun _h22 => .T (.T (.T (.T (.eh encB _hx20 (.T (.T (.T (.k ((↑_x19.toNat : Int) = 0) (_x19.toNat = 0) (by simp only [icEq])
       (fun _h23 => .r (0,0,false) ⟨(by dsimp only; (clear again; trivial)),⟨(by dsimp only; (clear again; trivial)),⟨(by dsimp only; omega),(by dsimp only; (clear again; trivial))⟩⟩⟩)
       (fun _h23 => have _w24 : (↑_x19.toNat : Int).tmod (128 : Int) = (↑_x19.toNat : Int) % (128 : Int) := Int.tmod_eq_emod_of_nonneg (by omega); have _w25 := wI64' ((↑_x19.toNat : Int) % (128 : Int)); have _w26 := wI64' ((↑_x19.toNat : Int) % (128 : Int) * (128 : Int)); have _w27 := wI64' (v + (↑_x19.toNat : Int) % (128 : Int) * (128 : Int)); have _w28 := wI64' ((1 : Int) + (1 : Int)); .q (Res.mk (AV.tuple [.int .i64 (IntKind.i64.wrap (v + IntKind.i64.wrap (IntKind.i64.wrap ((↑_x19.toNat : Int).tmod 128) * 128))),.int .i64 (IntKind.i64.wrap (1 + 1)),.bool true]) [] []) ⟨(v + (↑_x19.toNat : Int) % (128 : Int) * (128 : Int),(1 : Nat) + (1 : Nat),Bool.true),(by (clear again; simp_all)),⟨(by dsimp only; omega),⟨(by dsimp only; omega),⟨(by dsimp only; (clear again; trivial)),(by dsimp only; (clear again; trivial))⟩⟩⟩⟩))))))))))
       (fun _h22 => have _w29 : (↑_x19.toNat : Int).tmod (128 : Int) = (↑_x19.toNat : Int) % (128 : Int) := Int.tmod_eq_emod_of_nonneg (by omega); have _w30 := wI64' ((↑_x19.toNat : Int) % (128 : Int)); have _w31 := wI64' ((↑_x19.toNat : Int) % (128 : Int) * (128 : Int)); have _w32 := wI64' (v + (↑_x19.toNat : Int) % (128 : Int) * (128 : Int)); have _w33 := wI64' ((128 : Int) * (128 : Int)); have _w34 := wI64' ((1 : Int) + (1 : Int)); .A (St.mk [(0,.tree (List.map encB b)),(5,.int .i64 (IntKind.i64.wrap (v + IntKind.i64.wrap (IntKind.i64.wrap ((↑_x19.toNat : Int).tmod 128) * 128)))),(6,.int .i64 (IntKind.i64.wrap (128 * 128))),(7,.int .i64 (IntKind.i64.wrap (1 + 1)))] []) (by (clear again; simp_all)) (again (((1 : Nat) + (1 : Nat),v + (↑_x19.toNat : Int) % (128 : Int) * (128 : Int),(128 : Int) * (128 : Int))) ⟨(by dsimp only; omega),(by dsimp only; omega)⟩ (by dsimp only; omega))))))))))))
       (fun _h18 => .eF (1 < (↑(List.map encB b).length : Int)) (by simp only [List.length_map,ciLt]) _h18 (.eF (1 < (↑(List.map encB b).length : Int)) (by simp only [List.length_map,ciLt]) _h18 (.F
       (.r (0,0,false) ⟨(by dsimp only; (clear again; trivial)),⟨(by dsimp only; (clear again; trivial)),⟨(by dsimp only; omega),(by dsimp only; (clear again; trivial))⟩⟩⟩)))))
    · refine (.k (2 < (↑(List.map encB b).length : Int)) (2 < b.length) (by simp only [List.length_map,ciLt])
       (fun _h18 => .et (2 < (↑(List.map encB b).length : Int)) (by simp only [List.length_map,ciLt]) _h18 (.et (2 < (↑(List.map encB b).length : Int)) (by simp only [List.length_map,ciLt]) _h18 (.T (.T
       (.em encB b 2 ‹_› (fun _x19 _hx20 => .T (.T (.eh encB _hx20 (have _u21 : _x19.toNat < (256 : Nat) := UInt8.toNat_lt _; .k ((↑_x19.toNat : Int) < 128) (_x19.toNat < 128) (by simp only [icLt])
       (fun _h22 => .T (.T (.T (.T (.eh encB _hx20 (.T (.T (.T (.k ((↑_x19.toNat : Int) = 0) (_x19.toNat = 0) (by simp only [icEq])
       (fun _h23 => .r (0,0,false) ⟨(by dsimp only; (clear again; trivial)),⟨(by dsimp only; (clear again; trivial)),⟨(by dsimp only; omega),(by dsimp only; (clear again; trivial))⟩⟩⟩)
       (fun _h23 => have _w24 : (↑_x19.toNat : Int).tmod (128 : Int) = (↑_x19.toNat : Int) % (128 : Int) := Int.tmod_eq_emod_of_nonneg (by omega); have _w25 := wI64' ((↑_x19.toNat : Int) % (128 : Int)); have _w26 := wI64' ((↑_x19.toNat : Int) % (128 : Int) * (16384 : Int)); have _w27 := wI64' (v + (↑_x19.toNat : Int) % (128 : Int) * (16384 : Int)); have _w28 := wI64' ((2 : Int) + (1 : Int)); .q (Res.mk (AV.tuple [.int .i64 (IntKind.i64.wrap (v + IntKind.i64.wrap (IntKind.i64.wrap ((↑_x19.toNat : Int).tmod 128) * 16384))),.int .i64 (IntKind.i64.wrap (2 + 1)),.bool true]) [] []) ⟨(v + (↑_x19.toNat : Int) % (128 : Int) * (16384 : Int),(2 : Nat) + (1 : Nat),Bool.true),(by (clear again; simp_all)),⟨(by dsimp only; omega),⟨(by dsimp only; omega),⟨(by dsimp only; (clear again; trivial)),(by dsimp only; (clear again; trivial))⟩⟩⟩⟩))))))))))
       (fun _h22 => have _w29 : (↑_x19.toNat : Int).tmod (128 : Int) = (↑_x19.toNat : Int) % (128 : Int) := Int.tmod_eq_emod_of_nonneg (by omega); have _w30 := wI64' ((↑_x19.toNat : Int) % (128 : Int)); have _w31 := wI64' ((↑_x19.toNat : Int) % (128 : Int) * (16384 : Int)); have _w32 := wI64' (v + (↑_x19.toNat : Int) % (128 : Int) * (16384 : Int)); have _w33 := wI64' ((16384 : Int) * (128 : Int)); have _w34 := wI64' ((2 : Int) + (1 : Int)); .A (St.mk [(0,.tree (List.map encB b)),(5,.int .i64 (IntKind.i64.wrap (v + IntKind.i64.wrap (IntKind.i64.wrap ((↑_x19.toNat : Int).tmod 128) * 16384)))),(6,.int .i64 (IntKind.i64.wrap (16384 * 128))),(7,.int .i64 (IntKind.i64.wrap (2 + 1)))] []) (by (clear again; simp_all)) (again (((2 : Nat) + (1 : Nat),v + (↑_x19.toNat : Int) % (128 : Int) * (16384 : Int),(16384 : Int) * (128 : Int))) ⟨(by dsimp only; omega),(by dsimp only; omega)⟩ (by dsimp only; omega))))))))))))
       (fun _h18 => .eF (2 < (↑(List.map encB b).length : Int)) (by simp only [List.length_map,ciLt]) _h18 (.eF (2 < (↑(List.map encB b).length : Int)) (by simp only [List.length_map,ciLt]) _h18 (.F
       (.r (0,0,false) ⟨(by dsimp only; (clear again; trivial)),⟨(by dsimp only; (clear again; trivial)),⟨(by dsimp only; omega),(by dsimp only; (clear again; trivial))⟩⟩⟩)))))
    · refine (.k (3 < (↑(List.map encB b).length : Int)) (3 < b.length) (by simp only [List.length_map,ciLt])
       (fun _h18 => .et (3 < (↑(List.map encB b).length : Int)) (by simp only [List.length_map,ciLt]) _h18 (.et (3 < (↑(List.map encB b).length : Int)) (by simp only [List.length_map,ciLt]) _h18 (.T (.T
       (.em encB b 3 ‹_› (fun _x19 _hx20 => .T (.T (.eh encB _hx20 (have _u21 : _x19.toNat < (256 : Nat) := UInt8.toNat_lt _; .k ((↑_x19.toNat : Int) < 128) (_x19.toNat < 128) (by simp only [icLt])
       (fun _h22 => .T (.T (.T (.T (.eh encB _hx20 (.T (.T (.T (.k ((↑_x19.toNat : Int) = 0) (_x19.toNat = 0) (by simp only [icEq])
       (fun _h23 => .r (0,0,false) ⟨(by dsimp only; (clear again; trivial)),⟨(by dsimp only; (clear again; trivial)),⟨(by dsimp only; omega),(by dsimp only; (clear again; trivial))⟩⟩⟩)
       (fun _h23 => have _w24 : (↑_x19.toNat : Int).tmod (128 : Int) = (↑_x19.toNat : Int) % (128 : Int) := Int.tmod_eq_emod_of_nonneg (by omega); have _w25 := wI64' ((↑_x19.toNat : Int) % (128 : Int)); have _w26 := wI64' ((↑_x19.toNat : Int) % (128 : Int) * (2097152 : Int)); have _w27 := wI64' (v + (↑_x19.toNat : Int) % (128 : Int) * (2097152 : Int)); have _w28 := wI64' ((3 : Int) + (1 : Int)); .q (Res.mk (AV.tuple [.int .i64 (IntKind.i64.wrap (v + IntKind.i64.wrap (IntKind.i64.wrap ((↑_x19.toNat : Int).tmod 128) * 2097152))),.int .i64 (IntKind.i64.wrap (3 + 1)),.bool true]) [] []) ⟨(v + (↑_x19.toNat : Int) % (128 : Int) * (2097152 : Int),(3 : Nat) + (1 : Nat),Bool.true),(by (clear again; simp_all)),⟨(by dsimp only; omega),⟨(by dsimp only; omega),⟨(by dsimp only; (clear again; trivial)),(by dsimp only; (clear again; trivial))⟩⟩⟩⟩))))))))))
       (fun _h22 => have _w29 : (↑_x19.toNat : Int).tmod (128 : Int) = (↑_x19.toNat : Int) % (128 : Int) := Int.tmod_eq_emod_of_nonneg (by omega); have _w30 := wI64' ((↑_x19.toNat : Int) % (128 : Int)); have _w31 := wI64' ((↑_x19.toNat : Int) % (128 : Int) * (2097152 : Int)); have _w32 := wI64' (v + (↑_x19.toNat : Int) % (128 : Int) * (2097152 : Int)); have _w33 := wI64' ((2097152 : Int) * (128 : Int)); have _w34 := wI64' ((3 : Int) + (1 : Int)); .A (St.mk [(0,.tree (List.map encB b)),(5,.int .i64 (IntKind.i64.wrap (v + IntKind.i64.wrap (IntKind.i64.wrap ((↑_x19.toNat : Int).tmod 128) * 2097152)))),(6,.int .i64 (IntKind.i64.wrap (2097152 * 128))),(7,.int .i64 (IntKind.i64.wrap (3 + 1)))] []) (by (clear again; simp_all)) (again (((3 : Nat) + (1 : Nat),v + (↑_x19.toNat : Int) % (128 : Int) * (2097152 : Int),(2097152 : Int) * (128 : Int))) ⟨(by dsimp only; omega),(by dsimp only; omega)⟩ (by dsimp only; omega))))))))))))
       (fun _h18 => .eF (3 < (↑(List.map encB b).length : Int)) (by simp only [List.length_map,ciLt]) _h18 (.eF (3 < (↑(List.map encB b).length : Int)) (by simp only [List.length_map,ciLt]) _h18 (.F
       (.r (0,0,false) ⟨(by dsimp only; (clear again; trivial)),⟨(by dsimp only; (clear again; trivial)),⟨(by dsimp only; omega),(by dsimp only; (clear again; trivial))⟩⟩⟩)))))
    · refine (.k (4 < (↑(List.map encB b).length : Int)) (4 < b.length) (by simp only [List.length_map,ciLt])
       (fun _h18 => .et (4 < (↑(List.map encB b).length : Int)) (by simp only [List.length_map,ciLt]) _h18 (.et (4 < (↑(List.map encB b).length : Int)) (by simp only [List.length_map,ciLt]) _h18 (.T (.T
       (.em encB b 4 ‹_› (fun _x19 _hx20 => .T (.T (.eh encB _hx20 (have _u21 : _x19.toNat < (256 : Nat) := UInt8.toNat_lt _; .k ((↑_x19.toNat : Int) < 128) (_x19.toNat < 128) (by simp only [icLt])
       (fun _h22 => .T (.T (.T (.T (.eh encB _hx20 (.T (.T (.T (.k ((↑_x19.toNat : Int) = 0) (_x19.toNat = 0) (by simp only [icEq])
       (fun _h23 => .r (0,0,false) ⟨(by dsimp only; (clear again; trivial)),⟨(by dsimp only; (clear again; trivial)),⟨(by dsimp only; omega),(by dsimp only; (clear again; trivial))⟩⟩⟩)
       (fun _h23 => have _w24 : (↑_x19.toNat : Int).tmod (128 : Int) = (↑_x19.toNat : Int) % (128 : Int) := Int.tmod_eq_emod_of_nonneg (by omega); have _w25 := wI64' ((↑_x19.toNat : Int) % (128 : Int)); have _w26 := wI64' ((↑_x19.toNat : Int) % (128 : Int) * (268435456 : Int)); have _w27 := wI64' (v + (↑_x19.toNat : Int) % (128 : Int) * (268435456 : Int)); have _w28 := wI64' ((4 : Int) + (1 : Int)); .q (Res.mk (AV.tuple [.int .i64 (IntKind.i64.wrap (v + IntKind.i64.wrap (IntKind.i64.wrap ((↑_x19.toNat : Int).tmod 128) * 268435456))),.int .i64 (IntKind.i64.wrap (4 + 1)),.bool true]) [] []) ⟨(v + (↑_x19.toNat : Int) % (128 : Int) * (268435456 : Int),(4 : Nat) + (1 : Nat),Bool.true),(by (clear again; simp_all)),⟨(by dsimp only; omega),⟨(by dsimp only; omega),⟨(by dsimp only; (clear again; trivial)),(by dsimp only; (clear again; trivial))⟩⟩⟩⟩))))))))))
       (fun _h22 => have _w29 : (↑_x19.toNat : Int).tmod (128 : Int) = (↑_x19.toNat : Int) % (128 : Int) := Int.tmod_eq_emod_of_nonneg (by omega); have _w30 := wI64' ((↑_x19.toNat : Int) % (128 : Int)); have _w31 := wI64' ((↑_x19.toNat : Int) % (128 : Int) * (268435456 : Int)); have _w32 := wI64' (v + (↑_x19.toNat : Int) % (128 : Int) * (268435456 : Int)); have _w33 := wI64' ((268435456 : Int) * (128 : Int)); have _w34 := wI64' ((4 : Int) + (1 : Int)); .A (St.mk [(0,.tree (List.map encB b)),(5,.int .i64 (IntKind.i64.wrap (v + IntKind.i64.wrap (IntKind.i64.wrap ((↑_x19.toNat : Int).tmod 128) * 268435456)))),(6,.int .i64 (IntKind.i64.wrap (268435456 * 128))),(7,.int .i64 (IntKind.i64.wrap (4 + 1)))] []) (by (clear again; simp_all)) (again (((4 : Nat) + (1 : Nat),v + (↑_x19.toNat : Int) % (128 : Int) * (268435456 : Int),(268435456 : Int) * (128 : Int))) ⟨(by dsimp only; omega),(by dsimp only; omega)⟩ (by dsimp only; omega))))))))))))
       (fun _h18 => .eF (4 < (↑(List.map encB b).length : Int)) (by simp only [List.length_map,ciLt]) _h18 (.eF (4 < (↑(List.map encB b).length : Int)) (by simp only [List.length_map,ciLt]) _h18 (.F
       (.r (0,0,false) ⟨(by dsimp only; (clear again; trivial)),⟨(by dsimp only; (clear again; trivial)),⟨(by dsimp only; omega),(by dsimp only; (clear again; trivial))⟩⟩⟩)))))
    · refine (.k (5 < (↑(List.map encB b).length : Int)) (5 < b.length) (by simp only [List.length_map,ciLt])
       (fun _h18 => .et (5 < (↑(List.map encB b).length : Int)) (by simp only [List.length_map,ciLt]) _h18 (.et (5 < (↑(List.map encB b).length : Int)) (by simp only [List.length_map,ciLt]) _h18 (.F
       (.r (0,0,false) ⟨(by dsimp only; (clear again; trivial)),⟨(by dsimp only; (clear again; trivial)),⟨(by dsimp only; omega),(by dsimp only; (clear again; trivial))⟩⟩⟩))))
       (fun _h18 => .eF (5 < (↑(List.map encB b).length : Int)) (by simp only [List.length_map,ciLt]) _h18 (.eF (5 < (↑(List.map encB b).length : Int)) (by simp only [List.length_map,ciLt]) _h18 (.F
       (.r (0,0,false) ⟨(by dsimp only; (clear again; trivial)),⟨(by dsimp only; (clear again; trivial)),⟨(by dsimp only; omega),(by dsimp only; (clear again; trivial))⟩⟩⟩)))))
theorem c122 (b : List UInt8) (hb : b.length ≤ 100000) : ∃ p : List UInt8 × Nat × Bool,X.call 122 [.tree (b.map encB)] [] ⟨.tuple [.str p.1,.int .i64 p.2.1,.bool p.2.2],[],[]⟩ ∧ p.1.length ≤ b.length ∧ p.2.1 ≤ b.length ∧ (p.2.2 = true → 0 < p.2.1) := by
  refine spec_ex ok Go.Proofs.Tryz.func122 ok122 ?_
  refine (Exists.elim (@Tryz.c121 (b) ‹_›) (fun _y3 ⟨_hz4,_hc5,_hc6,_hc7,_hc8⟩ => .c _hz4 (.m _y3.snd.snd (fun _h9 => .y _h9 (.y _h9 (.y _h9 (.y _h9 (.y _h9 (.y _h9 (.T
   (.r ([],0,false) ⟨(by show (0 : Nat) ≤ b.length; omega),⟨(by dsimp only; omega),(by dsimp only; trivial)⟩⟩)))))))) (fun _h9 => have _hc10 := (_hc8 _h9); .x _h9 (.x _h9 (.x _h9 (.x _h9 (.x _h9
   (.x _h9
   (have _w11 := wI64' ((↑b.length : Int) - (↑_y3.snd.fst : Int)); .k (IntKind.i64.wrap ((↑(List.map encB b).length : Int) - (↑_y3.snd.fst : Int)) < _y3.fst) ((↑b.length : Int) - (↑_y3.snd.fst : Int) < _y3.fst) (by simp only [List.length_map,_w11])
   (fun _h12 => .r ([],0,false) ⟨(by show (0 : Nat) ≤ b.length; omega),⟨(by dsimp only; omega),(by dsimp only; trivial)⟩⟩) (fun _h12 => .z encB b 1 (fun _ => rfl)
   (have _w13 := wI64' ((↑_y3.snd.fst : Int) + _y3.fst); .k (0 ≤ IntKind.i64.wrap ((↑_y3.snd.fst : Int) + _y3.fst) ∧ IntKind.i64.wrap ((↑_y3.snd.fst : Int) + _y3.fst) ≤ (↑(List.map encB b).length : Int)) (0 ≤ (↑_y3.snd.fst : Int) + _y3.fst ∧ (↑_y3.snd.fst : Int) + _y3.fst ≤ (↑b.length : Int)) (by simp only [List.length_map,_w13])
   (fun _h14 => .k (0 ≤ (↑_y3.snd.fst : Int) ∧ (↑_y3.snd.fst : Int) ≤ (↑(IntKind.i64.wrap ((↑_y3.snd.fst : Int) + _y3.fst)).toNat : Int)) (0 ≤ _y3.snd.fst ∧ _y3.snd.fst ≤ ((↑_y3.snd.fst : Int) + _y3.fst).toNat) (by simp only [Int.ofNat_le,ciLe,_w13])
   (fun _h15 => SatE.pEszM (encB) (List.drop (↑_y3.snd.fst : Int).toNat (List.take ((↑_y3.snd.fst : Int) + _y3.fst).toNat b)) (List.drop (↑_y3.snd.fst : Int).toNat (List.take (IntKind.i64.wrap ((↑_y3.snd.fst : Int) + _y3.fst)).toNat (List.map encB b))) (1) (by kernel_rfl) (by simp [_w13])
   (fun _ => rfl)
   (.B (List.drop (↑_y3.snd.fst : Int).toNat (List.take (IntKind.i64.wrap ((↑_y3.snd.fst : Int) + _y3.fst)).toNat (List.map encB b))) (List.drop (↑_y3.snd.fst : Int).toNat (List.take ((↑_y3.snd.fst : Int) + _y3.fst).toNat b)) (by simp [encB_fun,_w13])
   (.q (Res.mk (AV.tuple [.str (List.drop (↑_y3.snd.fst : Int).toNat (List.take ((↑_y3.snd.fst : Int) + _y3.fst).toNat b)),.int .i64 (IntKind.i64.wrap ((↑_y3.snd.fst : Int) + _y3.fst)),.bool true]) [] []) ⟨(List.drop (↑_y3.snd.fst : Int).toNat (List.take ((↑_y3.snd.fst : Int) + _y3.fst).toNat b),((↑_y3.snd.fst : Int) + _y3.fst).toNat,Bool.true),(by (simp [_w13,_w11]; omega)),⟨(by dsimp only; (simp; omega)),⟨(by dsimp only; omega),(by dsimp only; omega)⟩⟩⟩)))
   (fun _h15 => False.elim (by omega))) (fun _h14 => False.elim (by omega))))))))))))))
theorem c86 (B : List UInt8) (bad : Bool) (hb : B.length ≤ 100000) : ∃ p : Int × List UInt8 × Bool,X.call 86 [.ref (.inc 0) 0 0] [.box (encBr ⟨B,bad⟩) true] ⟨.int .i64 p.1,[.box (encBr ⟨p.2.1,p.2.2⟩) true],[]⟩ ∧ 0 ≤ p.1 ∧ p.1 ≤ 1000000000000 ∧ p.2.1.length ≤ B.length ∧ (p.2.2 = false → p.2.1.length < B.length) := by
  cases bad
  · refine spec_ex ok Go.Proofs.Tryz.func86 ok86 ?_
    refine (Exists.elim (@Tryz.c121 (B) ‹_›) (fun _y4 ⟨_hz5,_hc6,_hc7,_hc8,_hc9⟩ => .c _hz5 (.m _y4.snd.snd (fun _h10 => .T
     (.r (0,B,true) ⟨(by dsimp only; trivial),⟨(by dsimp only; trivial),⟨(by dsimp only; omega),(by dsimp only; simp)⟩⟩⟩)) (fun _h10 => have _hc11 := (_hc9 _h10); .F (.z encB B 1 (fun _ => rfl)
     (.k (0 ≤ (↑_y4.snd.fst : Int) ∧ (↑_y4.snd.fst : Int) ≤ (↑(List.map encB B).length : Int)) (0 ≤ _y4.snd.fst ∧ _y4.snd.fst ≤ B.length) (by simp only [List.length_map,Int.ofNat_le,ciLe])
     (fun _h12 => .q (Res.mk (.int .i64 _y4.fst) [.box
     (.agg [.tree (List.drop (↑_y4.snd.fst : Int).toNat (List.map encB B)),.bool false]) true] []) ⟨(_y4.fst,List.drop (↑_y4.snd.fst : Int).toNat B,Bool.false),(by simp [encBr]),⟨(by dsimp only; trivial),⟨(by dsimp only; trivial),⟨(by dsimp only; simp),(by dsimp only; (simp; omega))⟩⟩⟩⟩)
     (fun _h12 => False.elim (by omega))))))))
  · refine spec_ex ok Go.Proofs.Tryz.func86 ok86 ?_
    refine (Exists.elim (@Tryz.c121 (B) ‹_›) (fun _y4 ⟨_hz5,_hc6,_hc7,_hc8,_hc9⟩ => .c _hz5 (.m _y4.snd.snd (fun _h10 => .T
     (.r (0,B,true) ⟨(by dsimp only; trivial),⟨(by dsimp only; trivial),⟨(by dsimp only; omega),(by dsimp only; simp)⟩⟩⟩)) (fun _h10 => have _hc11 := (_hc9 _h10); .T
     (.r (0,B,true) ⟨(by dsimp only; trivial),⟨(by dsimp only; trivial),⟨(by dsimp only; omega),(by dsimp only; simp)⟩⟩⟩)))))
theorem c87 (B : List UInt8) (bad : Bool) (hb : B.length ≤ 100000) : ∃ p : List UInt8 × List UInt8 × Bool,X.call 87 [.ref (.inc 0) 0 0] [.box (encBr ⟨B,bad⟩) true] ⟨.str p.1,[.box (encBr ⟨p.2.1,p.2.2⟩) true],[]⟩ ∧ p.1.length ≤ B.length ∧ p.2.1.length ≤ B.length ∧ (p.2.2 = false → p.2.1.length < B.length) := by
  cases bad
  · refine spec_ex ok Go.Proofs.Tryz.func87 ok87 ?_
    refine (Exists.elim (@Tryz.c122 (B) ‹_›) (fun _y4 ⟨_hz5,_hc6,_hc7,_hc8⟩ => .c _hz5 (.m _y4.snd.snd (fun _h9 => .T
     (.r ([],B,true) ⟨(by show (0 : Nat) ≤ B.length; omega),⟨(by dsimp only; omega),(by dsimp only; simp)⟩⟩)) (fun _h9 => have _hc10 := (_hc8 _h9); .F (.z encB B 1 (fun _ => rfl)
     (.k (0 ≤ (↑_y4.snd.fst : Int) ∧ (↑_y4.snd.fst : Int) ≤ (↑(List.map encB B).length : Int)) (0 ≤ _y4.snd.fst ∧ _y4.snd.fst ≤ B.length) (by simp only [List.length_map,Int.ofNat_le,ciLe])
     (fun _h11 => .q (Res.mk (.str _y4.fst) [.box
     (.agg [.tree (List.drop (↑_y4.snd.fst : Int).toNat (List.map encB B)),.bool false]) true] []) ⟨(_y4.fst,List.drop (↑_y4.snd.fst : Int).toNat B,Bool.false),(by simp [encBr]),⟨(by dsimp only; trivial),⟨(by dsimp only; simp),(by dsimp only; (simp; omega))⟩⟩⟩)
     (fun _h11 => False.elim (by omega))))))))
  · refine spec_ex ok Go.Proofs.Tryz.func87 ok87 ?_
    refine (Exists.elim (@Tryz.c122 (B) ‹_›) (fun _y4 ⟨_hz5,_hc6,_hc7,_hc8⟩ => .c _hz5 (.m _y4.snd.snd (fun _h9 => .T
     (.r ([],B,true) ⟨(by show (0 : Nat) ≤ B.length; omega),⟨(by dsimp only; omega),(by dsimp only; simp)⟩⟩)) (fun _h9 => have _hc10 := (_hc8 _h9); .T
     (.r ([],B,true) ⟨(by show (0 : Nat) ≤ B.length; omega),⟨(by dsimp only; omega),(by dsimp only; simp)⟩⟩)))))
theorem putText_call (b s : List UInt8) (hb : b.length ≤ 90000) (hs : s.length ≤ 90000) : X.call 83 [.tree (b.map encB),.str s] [] ⟨.sref (.out 0) 0 (b ++ textB s).length,[],[.row 1 ((b ++ textB s).map encB) true true]⟩ := by
  have hn := numB_len s.length (by omega)
  unfold textB
  refine spec_of ok Go.Proofs.Tryz.func83 ok83 ?_
  refine
   (have _hc6 := ((@Tryz.c82 (b) ((↑s.length : Int)) (by omega) (by omega) (by omega))).2; have _hn7 : b.length + (numB s.length).length ≤ b.length + (5 : Nat) := Iff.mp (by simp only [List.length_append,Int.toNat_natCast]) _hc6; .c ((@Tryz.c82 (b) ((↑s.length : Int)) (by omega) (by omega) (by omega))).1
   (.k (((b ++ numB (↑s.length : Int).toNat).length + (List.map (fun (c : UInt8) => AV.int IntKind.u8 (↑c.toNat : Int)) s).length) * (1 : Nat) ≤ 140737488355328) ((b.length + (numB s.length).length + s.length) * (1 : Nat) ≤ 140737488355328) (by simp only [List.length_map,List.length_append,Int.toNat_natCast])
   (fun _h8 => .k ((b ++ numB (↑s.length : Int).toNat).length = (List.map encB (b ++ numB (↑s.length : Int).toNat)).length) (True) (by simp only [List.length_map]) (fun _h9 => .q (Res.mk (.sref
   (.out 0) 0 ((b ++ numB (↑s.length : Int).toNat).length + (List.map (fun (c : UInt8) => AV.int .u8 (↑c.toNat : Int)) s).length)) [] [.row 1 (List.map encB (b ++ numB (↑s.length : Int).toNat) ++ List.map (fun (c : UInt8) => AV.int .u8 (↑c.toNat : Int)) s) true true]) (by (simp [encB_fun,Nat.add_assoc]; done)))
   (fun _h9 => (_h9 trivial).elim)) (fun _h8 => False.elim (by omega))))
theorem c83 (b s : List UInt8) (hb : b.length ≤ 90000) (hs : s.length ≤ 90000) : X.call 83 [.tree (b.map encB),.str s] [] ⟨.sref (.out 0) 0 (b ++ textB s).length,[],[.row 1 ((b ++ textB s).map encB) true true]⟩ ∧ (b ++ textB s).length ≤ b.length + 5 + s.length :=
  ⟨putText_call b s hb hs,by have := numB_len s.length (by omega); simp only [textB,List.length_append]; omega⟩
end Go.Ab.Tryz
