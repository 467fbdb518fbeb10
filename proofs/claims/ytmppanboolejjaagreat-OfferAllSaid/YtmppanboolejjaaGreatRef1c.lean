/- Package cardamomref1: which may be, which are alike, as plain Lean. -/
import Derived.Test.YtmppanboolejjaaGreatRef1b
namespace Go.Ab.Tryz
open Go
set_option maxRecDepth 100000
set_option maxHeartbeats 4000000
theorem c68 (a b : List Head) (ha : a.length ≤ 100000) : X.call 68 [.tree (a.map encHead),.tree (b.map encHead)] [] ⟨.bool (decide (a = b)),[],[]⟩ := by
  refine spec_of ok Go.Proofs.Tryz.func68 ok68 ?_
  refine (.l ((↑(List.map encHead a).length : Int) = (↑(List.map encHead b).length : Int)) (a.length = b.length) (by simp only [List.length_map,Int.natCast_inj]) (fun _h4 => .q (Res.mk
   (.bool false) [] []) (by (simp; intro e; subst e; simp_all))) (fun _h4 => ?_))
  refine Sat.pLoop 4 (St.mk [(0,.tree (List.map encHead a)),(1,.tree (List.map encHead b)),(5,.int .i64 0)] []) (by kernel_rfl) (fun (k : Nat) => ⟨[(0,.tree (a.map encHead)),(1,.tree (b.map encHead)),(5,.int .i64 k)],[]⟩) (fun k => k ≤ a.length ∧ a.take k = b.take k) (fun k => a.length - k) 0 rfl ?_ ?_
  · simp
  · intro k hk again
    refine (.kl encHead a k (fun _h8 => .T (.em encHead a k ‹_› (fun _x9 _hx10 => .T (.em encHead b k (by omega)
     (fun _x11 _hx12 => Sat.pNodeEN (decide (_x9.Item = _x11.Item) && (decide (_x9.S.L = _x11.S.L) && (decide (_x9.S.R = _x11.S.R) && (decide (_x9.S.N = _x11.S.N) && Bool.true)) && Bool.true)) (_x9.Item = _x11.Item ∧ (_x9.S.L = _x11.S.L ∧ _x9.S.R = _x11.S.R ∧ _x9.S.N = _x11.S.N ∧ True) ∧ True) (by kernel_rfl) (by simp only [Bool.and_eq_true,decide_eq_true_eq])
     (fun _h13 => .q (Res.mk (.bool false) [] []) (by (clear again; (simp; intro e; subst e; simp_all))))
     (fun _h13 => have _w14 := wI64' ((↑k : Int) + (1 : Int)); .A (St.mk [(0,.tree (List.map encHead a)),(1,.tree (List.map encHead b)),(5,.int .i64 (IntKind.i64.wrap ((↑k : Int) + 1)))] []) (by simp [_w14]) (again (k + (1 : Nat)) (by (clear again; (refine ⟨by omega, ?_⟩; rw [take_succ ‹_›,take_succ ‹_›,hk.2]; simp_all [Head.ext_iff,Stamp.ext_iff]))) (by omega))))))))
     (fun _h8 => .q (Res.mk (.bool true) [] []) (by (clear again; (rw [List.take_of_length_le (by omega),List.take_of_length_le (by omega)] at hk; simp_all)))))
theorem c69 (a b : List Int) (ha : a.length ≤ 100000) : X.call 69 [.tree (a.map encI),.tree (b.map encI)] [] ⟨.bool (decide (a = b)),[],[]⟩ := by
  refine spec_of ok Go.Proofs.Tryz.func69 ok69 ?_
  refine (.l ((↑(List.map encI a).length : Int) = (↑(List.map encI b).length : Int)) (a.length = b.length) (by simp only [List.length_map,Int.natCast_inj]) (fun _h4 => .q (Res.mk
   (.bool false) [] []) (by (simp; intro e; subst e; simp_all))) (fun _h4 => ?_))
  refine Sat.pLoop 4 (St.mk [(0,.tree (List.map encI a)),(1,.tree (List.map encI b)),(5,.int .i64 0)] []) (by kernel_rfl) (fun (k : Nat) => ⟨[(0,.tree (a.map encI)),(1,.tree (b.map encI)),(5,.int .i64 k)],[]⟩) (fun k => k ≤ a.length ∧ a.take k = b.take k) (fun k => a.length - k) 0 rfl ?_ ?_
  · simp
  · intro k hk again
    refine (.kl encI a k (fun _h8 => .T (.em encI a k ‹_› (fun _x9 _hx10 => .T (.em encI b k (by omega) (fun _x11 _hx12 => .j (_x9 = _x11) (fun _h13 => .q (Res.mk
     (.bool false) [] []) (by (clear again; (simp; intro e; subst e; simp_all))))
     (fun _h13 => have _w14 := wI64' ((↑k : Int) + (1 : Int)); .A (St.mk [(0,.tree (List.map encI a)),(1,.tree (List.map encI b)),(5,.int .i64 (IntKind.i64.wrap ((↑k : Int) + 1)))] []) (by simp [_w14]) (again (k + (1 : Nat)) (by (clear again; (refine ⟨by omega, ?_⟩; rw [take_succ ‹_›,take_succ ‹_›,hk.2]; simp_all))) (by omega))))))))
     (fun _h8 => .q (Res.mk (.bool true) [] []) (by (clear again; (rw [List.take_of_length_le (by omega),List.take_of_length_le (by omega)] at hk; simp_all)))))
end Go.Ab.Tryz
