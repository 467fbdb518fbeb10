/- Package cardamomref1: which may be, as plain Lean. -/
import Derived.Test.YtmppanboolejjaaGreatRef1c
namespace Go.Ab.Tryz
open Go
set_option maxRecDepth 100000
set_option maxHeartbeats 4000000
theorem c107 (l : List Head) (hl : l.length ≤ 100000) : X.call 107 [.tree (l.map encHead)] [] ⟨.bool (headsMay 0 l),[],[]⟩ := by
  refine spec_of ok Go.Proofs.Tryz.func107 ok107 ?_
  refine ?_
  refine Sat.pLoop 2 (St.mk [(0,.tree (List.map encHead l)),(3,.int .i64 0)] []) (by kernel_rfl) (fun (k : Nat) => ⟨[(0,.tree (l.map encHead)),(3,.int .i64 k)],[]⟩) (fun k => k ≤ l.length ∧ headsMay 0 l = headsMay (lastH l k) (l.drop k)) (fun k => l.length - k) 0 rfl ?_ ?_
  · simp [lastH]
  · intro k hk again
    obtain ⟨hk,he⟩ := hk
    have h0 : k = 0 ∨ ∃ j,k = j + 1 := by cases k <;> simp
    refine (.kl encHead l k (fun _h9 => .T (.em encHead l k ‹_› (fun _x10 _hx11 => .i (_x10.Item < 1) (fun _h12 => .it _h12 (.it _h12 (.it _h12 (.it _h12 (.it _h12 (.it _h12 (.T (.T (.T (.T (.T (.T (.T (.T
     (.T (.T (.T (.T (.T (.T (.q (Res.mk (.bool false) [] []) (by (clear again; (rw [he,drop_at ‹_›]; simp only [headsMay]; rw [decide_eq_false (by omega)]; rfl))))))))))))))))))))))))
     (fun _h12 => .iF _h12 (.iF _h12 (.T (.eh encHead _hx11 (.iF _h12 (.iF _h12 (.iF _h12 (.iF _h12 (.i (6 < _x10.Item) (fun _h13 => .it _h13 (.it _h13 (.it _h13 (.it _h13 (.it _h13 (.it _h13 (.it _h13 (.T
     (.T (.T (.T (.T (.T (.q (Res.mk (.bool false) [] []) (by (clear again; (rw [he,drop_at ‹_›]; simp only [headsMay]; rw [decide_eq_false (by omega)]; rfl))))))))))))))))) (fun _h13 => .iF _h13 (.iF _h13
     (.T (.eh encHead _hx11 (.iF _h13 (.iF _h13 (.iF _h13 (.c (@Tryz.c108 (_x10.S)) (.iF _h13 (.iF _h13 (.m _x10.S.may (fun _h14 => .y _h14 (.y _h14 (.y _h14 (.y _h14 (.T (.q (Res.mk
     (.bool false) [] []) (by (clear again; (rw [he,drop_at ‹_›]; rcases h0 with rfl | ⟨j,rfl⟩ <;> simp_all [headsMay,lastH] <;> omega))))))))) (fun _h14 => .x _h14 (.x _h14
     (.k (0 < (↑k : Int)) (0 < k) (by simp only [ciLt]) (fun _h15 => .et (0 < (↑k : Int)) (by simp only [ciLt]) _h15 (.et (0 < (↑k : Int)) (by simp only [ciLt]) _h15 (.T (.eh encHead _hx11
     (.et (0 < (↑k : Int)) (by simp only [ciLt]) _h15 (.et (0 < (↑k : Int)) (by simp only [ciLt]) _h15 (.et (0 < (↑k : Int)) (by simp only [ciLt]) _h15 (.et (0 < (↑k : Int)) (by simp only [ciLt]) _h15
     (.et (0 < (↑k : Int)) (by simp only [ciLt]) _h15 (.et (0 < (↑k : Int)) (by simp only [ciLt]) _h15
     (have _w16 := wI64' ((↑k : Int) - (1 : Int)); .k (0 ≤ IntKind.i64.wrap ((↑k : Int) - 1)) (0 ≤ (↑k : Int) - 1) (by simp only [_w16])
     (fun _h17 => .eM encHead l ((IntKind.i64.wrap ((↑k : Int) - 1)).toNat) (((↑k : Int) - 1).toNat) (by simp only [_w16]) (by omega) (fun _x18 _hx19 => .et (0 < (↑k : Int)) (by simp only [ciLt]) _h15
     (.et (0 < (↑k : Int)) (by simp only [ciLt]) _h15 (.et (0 < (↑k : Int)) (by simp only [ciLt]) _h15 (.x _h14 (.et (0 < (↑k : Int)) (by simp only [ciLt]) _h15 (.x _h14 (.i (_x10.Item ≤ _x18.Item)
     (fun _h20 => .q (Res.mk (.bool false) [] []) (by (clear again; (rw [he,drop_at ‹_›]; rcases h0 with rfl | ⟨j,rfl⟩ <;> simp_all [headsMay,lastH] <;> omega))))
     (fun _h20 => have _w21 := wI64' ((↑k : Int) + (1 : Int)); .A (St.mk [(0,.tree (List.map encHead l)),(3,.int .i64 (IntKind.i64.wrap ((↑k : Int) + 1)))] []) (by simp [_w21]) (again (k + (1 : Nat)) (by (clear again; (rw [he,drop_at ‹_›]; rcases h0 with rfl | ⟨j,rfl⟩ <;> simp_all [headsMay,lastH] <;> omega))) (by omega)))))))))))
     (fun _h17 => False.elim (by omega))))))))))))) (fun _h15 => .eF (0 < (↑k : Int)) (by simp only [ciLt]) _h15 (.eF (0 < (↑k : Int)) (by simp only [ciLt]) _h15
     (.eF (0 < (↑k : Int)) (by simp only [ciLt]) _h15 (.eF (0 < (↑k : Int)) (by simp only [ciLt]) _h15 (.eF (0 < (↑k : Int)) (by simp only [ciLt]) _h15 (.eF (0 < (↑k : Int)) (by simp only [ciLt]) _h15
     (.eF (0 < (↑k : Int)) (by simp only [ciLt]) _h15 (.eF (0 < (↑k : Int)) (by simp only [ciLt]) _h15 (.eF (0 < (↑k : Int)) (by simp only [ciLt]) _h15 (.eF (0 < (↑k : Int)) (by simp only [ciLt]) _h15
     (.eF (0 < (↑k : Int)) (by simp only [ciLt]) _h15 (.x _h14 (.eF (0 < (↑k : Int)) (by simp only [ciLt]) _h15 (.x _h14 (.F
     (have _w22 := wI64' ((↑k : Int) + (1 : Int)); .A (St.mk [(0,.tree (List.map encHead l)),(3,.int .i64 (IntKind.i64.wrap ((↑k : Int) + 1)))] []) (by simp [_w22]) (again (k + (1 : Nat)) (by (clear again; (rw [he,drop_at ‹_›]; rcases h0 with rfl | ⟨j,rfl⟩ <;> simp_all [headsMay,lastH] <;> omega))) (by omega))))))))))))))))))))))))))))))))))))))))))))
     (fun _h9 => .q (Res.mk (.bool true) [] []) (by (clear again; (rw [he,List.drop_of_length_le (by omega)]; simp [headsMay])))))
theorem c123 (v : Version) (key : Int) (hl : v.Attrs.length ≤ 100000) : X.call 123 [encVersion v,.int .i64 key] [] ⟨.tuple [.int .i64 ((attrOf v.Attrs key).getD 0),.bool (attrOf v.Attrs key).isSome],[],[]⟩ := by
  refine spec_of ok Go.Proofs.Tryz.func123 ok123 ?_
  refine ?_
  refine Sat.pLoop 2 (St.mk [(1,.int .i64 key),(2,.ref (.head 2 0) 0 0),(6,.int .i64 0)] [(.head 2 0,.box (encVersion v) true)]) (by kernel_rfl) (fun (k : Nat) => ⟨[(1,.int .i64 key),(2,.ref
   (.head 2 0) 0 0),(6,.int .i64 k)],[(.head 2 0,.box (encVersion v) true)]⟩) (fun k => k ≤ v.Attrs.length ∧ attrOf v.Attrs key = attrOf (v.Attrs.drop k) key) (fun k => v.Attrs.length - k) 0 rfl ?_ ?_
  · simp
  · intro k hk again
    refine (.kl encAttr v.Attrs k (fun _h7 => .T (.em encAttr v.Attrs k ‹_› (fun _x8 _hx9 => .i (_x8.Key = key) (fun _h10 => .T (.eh encAttr _hx9
     (.q (Res.mk (AV.tuple [.int .i64 _x8.Val,.bool true]) [] []) (by (clear again; (rw [hk.2,drop_at ‹_›]; simp_all [attrOf]))))))
     (fun _h10 => have _w11 := wI64' ((↑k : Int) + (1 : Int)); .A (St.mk [(1,.int .i64 key),(2,.ref
     (.head 2 0) 0 0),(6,.int .i64 (IntKind.i64.wrap ((↑k : Int) + 1)))] [(.head 2 0,.box (encVersion v) true)]) (by simp [encVersion,_w11]) (again (k + (1 : Nat)) (by (clear again; (rw [drop_at ‹_›] at hk; simp_all [attrOf]; omega))) (by omega))))))
     (fun _h7 => .q (Res.mk (AV.tuple [.int .i64 0,.bool false]) [] []) (by (clear again; (rw [hk.2,List.drop_of_length_le (by omega)]; rfl)))))
end Go.Ab.Tryz
