/- Package cardamomref1: rows with one more, as plain Lean. -/
import Derived.Test.YtmppanboolejjaaGreatRef1d
import Derived.Test.YtmppanboolejjaaGreatG3
namespace Go.Ab.Tryz
open Go
set_option maxRecDepth 100000
set_option maxHeartbeats 4000000
theorem c44 (l : List Head) (h : Head) (hl : l.length ≤ 1000) : X.call 44 [.tree (l.map encHead),encHead h] [] ⟨.tree ((putHead l h).map encHead),[],[]⟩ := by
  refine spec_of ok Go.Proofs.Tryz.func44 ok44 ?_
  refine (.c (@Tryz.c33 (l) (h.Item) (by omega)) (.c (@Tryz.c32 (h.S) (headAt l h.Item)) (.i (h.S.cmp (headAt l h.Item) ≤ 0) (fun _h4 => .z encHead l 4 (fun _ => rfl)
   (.k ((0 + (List.map encHead l).length) * (32 : Nat) ≤ 140737488355328) ((0 + l.length) * (32 : Nat) ≤ 140737488355328) (by simp only [List.length_map]) (fun _h5 => .T
   (have _w6 : List.take ((0 : Nat) + (List.map encHead l).length) (List.map encHead l) = List.map encHead l := List.take_of_length_le (by simp); .q (Res.mk
   (.tree (List.take (0 + (List.map encHead l).length) (List.map encHead l))) [] []) (by (simp_all [putHead]; done)))) (fun _h5 => False.elim (by omega)))) (fun _h4 => ?_))))
  have e0 : putHead l h = insGo l h := by simp [putHead,_h4]
  rw [e0]
  refine Sat.pLoop 6 (St.mk [(0,.tree (List.map encHead l)),(3,.ref (.head 3 0) 0 0),(5,.sref (.head 5 0) 0 0),(6,.bool false),(7,.int .i64 0)] [(.head 3 0,.box (encHead h) true),
   (.head 5 0,.row 4 [] true true)]) (by kernel_rfl) (fun (p : Nat × Bool × List Head) => ⟨[(0,.tree (l.map encHead)),(3,.ref (.head 3 0) 0 0),(5,.sref
   (.head 5 0) 0 p.2.2.length),(6,.bool p.2.1),(7,.int .i64 p.1)],[(.head 3 0,.box (encHead h) true),
   (.head 5 0,.row 4 (p.2.2.map encHead) true true)]⟩) (fun p => p.1 ≤ l.length ∧ p.2.2.length ≤ p.1 + p.2.1.toNat ∧ (if p.2.1 then p.2.2 ++ (l.drop p.1).filter (fun y => decide (y.Item ≠ h.Item)) = insGo l h else p.2.2 ++ insGo (l.drop p.1) h = insGo l h)) (fun p => l.length - p.1) (0,false,[]) rfl ?_ ?_
  · exact ⟨by simp,by simp,rfl⟩
  · rintro ⟨k,put,acc⟩ hI again
    obtain ⟨hk,hal,hs⟩ := hI
    cases put <;> simp only [Bool.toNat_false,Bool.toNat_true,if_true,if_false,Bool.false_eq_true] at hk hal hs
    · refine (.kl encHead l k (fun _h14 => .T (.T (.T (.T (.em encHead l k ‹_› (fun _x15 _hx16 => .T (.T (.T (.T (.T (.T (.i (h.Item ≤ _x15.Item)
       (fun _h17 => .i ((acc.length + 1) * (32 : Nat) ≤ 140737488355328) (fun _h18 => .k (acc.length = (List.map encHead acc).length) (True) (by simp only [List.length_map]) (fun _h19 => .T (.eh encHead _hx16
       (.j (_x15.Item = h.Item) (fun _h20 => .T (.eh encHead _hx16 (.i ((acc.length + 1 + 1) * (32 : Nat) ≤ 140737488355328)
       (fun _h21 => .et (acc.length + 1 = (List.map encHead acc ++ [encHead h]).length) (by simp only [List.length_map,List.length_append,List.length_cons,List.length_nil]) _h19
       (have _w22 := wI64' ((↑k : Int) + (1 : Int)); .A (St.mk [(0,.tree (List.map encHead l)),(3,.ref (.head 3 0) 0 0),(5,.sref
       (.head 5 0) 0 (acc.length + 1 + 1)),(6,.bool true),(7,.int .i64 (IntKind.i64.wrap ((↑k : Int) + 1)))] [(.head 3 0,.box (encHead h) true),
       (.head 5 0,.row 4 (List.map encHead acc ++ [encHead h] ++ [encHead _x15]) true true)]) (by simp [encHead,_w22]) (again ((k + (1 : Nat),Bool.true,acc ++ [h] ++ [_x15])) ⟨(by dsimp only; omega),⟨(by dsimp only; (clear again; (simp; omega))),(by dsimp only; (clear again; (rw [drop_at ‹_›] at hs; simp_all [insGo]; done)))⟩⟩ (by dsimp only; omega))))
       (fun _h21 => False.elim (by omega))))) (fun _h20 => have _w23 := wI64' ((↑k : Int) + (1 : Int)); .A (St.mk [(0,.tree (List.map encHead l)),(3,.ref (.head 3 0) 0 0),(5,.sref
       (.head 5 0) 0 (acc.length + 1)),(6,.bool true),(7,.int .i64 (IntKind.i64.wrap ((↑k : Int) + 1)))] [(.head 3 0,.box (encHead h) true),
       (.head 5 0,.row 4 (List.map encHead acc ++ [encHead h]) true true)]) (by simp [encHead,_w23]) (again ((k + (1 : Nat),Bool.true,acc ++ [h])) ⟨(by dsimp only; omega),⟨(by dsimp only; (clear again; (simp; omega))),(by dsimp only; (clear again; (rw [drop_at ‹_›] at hs; simp_all [insGo]; done)))⟩⟩ (by dsimp only; omega))))))
       (fun _h19 => (_h19 trivial).elim)) (fun _h18 => False.elim (by omega))) (fun _h17 => .T (.eh encHead _hx16 (.j (_x15.Item = h.Item) (fun _h24 => .T (.eh encHead _hx16
       (.i ((acc.length + 1) * (32 : Nat) ≤ 140737488355328) (fun _h25 => .k (acc.length = (List.map encHead acc).length) (True) (by simp only [List.length_map])
       (fun _h26 => have _w27 := wI64' ((↑k : Int) + (1 : Int)); .A (St.mk [(0,.tree (List.map encHead l)),(3,.ref (.head 3 0) 0 0),(5,.sref
       (.head 5 0) 0 (acc.length + 1)),(6,.bool false),(7,.int .i64 (IntKind.i64.wrap ((↑k : Int) + 1)))] [(.head 3 0,.box (encHead h) true),
       (.head 5 0,.row 4 (List.map encHead acc ++ [encHead _x15]) true true)]) (by simp [encHead,_w27]) (again ((k + (1 : Nat),Bool.false,acc ++ [_x15])) ⟨(by dsimp only; omega),⟨(by dsimp only; (clear again; (simp; omega))),(by dsimp only; (clear again; (rw [drop_at ‹_›] at hs; simp_all [insGo]; done)))⟩⟩ (by dsimp only; omega)))
       (fun _h26 => (_h26 trivial).elim)) (fun _h25 => False.elim (by omega))))) (fun _h24 => False.elim (by omega))))))))))))))))) (fun _h14 => .T (.i ((acc.length + 1) * (32 : Nat) ≤ 140737488355328)
       (fun _h28 => .k (acc.length = (List.map encHead acc).length) (True) (by simp only [List.length_map])
       (fun _h29 => have _w30 : List.take (acc.length + (1 : Nat)) (List.map encHead acc ++ [encHead h]) = List.map encHead acc ++ [encHead h] := List.take_of_length_le (by simp); .q (Res.mk
       (.tree (List.take (acc.length + 1) (List.map encHead acc ++ [encHead h]))) [] []) (by (clear again; (rw [List.drop_of_length_le (by omega)] at hs; rw [← hs]; simp [insGo,List.take_of_length_le]))))
       (fun _h29 => (_h29 trivial).elim)) (fun _h28 => False.elim (by omega)))))
    · refine (.kl encHead l k (fun _h14 => .F (.F (.F (.F (.F (.F (.F (.F (.F (.F (.T (.em encHead l k ‹_› (fun _x15 _hx16 => .j (_x15.Item = h.Item) (fun _h17 => .T (.eh encHead _hx16
       (.i ((acc.length + 1) * (32 : Nat) ≤ 140737488355328) (fun _h18 => .k (acc.length = (List.map encHead acc).length) (True) (by simp only [List.length_map])
       (fun _h19 => have _w20 := wI64' ((↑k : Int) + (1 : Int)); .A (St.mk [(0,.tree (List.map encHead l)),(3,.ref (.head 3 0) 0 0),(5,.sref
       (.head 5 0) 0 (acc.length + 1)),(6,.bool true),(7,.int .i64 (IntKind.i64.wrap ((↑k : Int) + 1)))] [(.head 3 0,.box (encHead h) true),
       (.head 5 0,.row 4 (List.map encHead acc ++ [encHead _x15]) true true)]) (by simp [encHead,_w20]) (again ((k + (1 : Nat),Bool.true,acc ++ [_x15])) ⟨(by dsimp only; omega),⟨(by dsimp only; (clear again; (simp; omega))),(by dsimp only; (clear again; (rw [drop_at ‹_›] at hs; simp_all [insGo]; done)))⟩⟩ (by dsimp only; omega)))
       (fun _h19 => (_h19 trivial).elim)) (fun _h18 => False.elim (by omega))))) (fun _h17 => have _w21 := wI64' ((↑k : Int) + (1 : Int)); .A (St.mk [(0,.tree (List.map encHead l)),(3,.ref
       (.head 3 0) 0 0),(5,.sref (.head 5 0) 0 acc.length),(6,.bool true),(7,.int .i64 (IntKind.i64.wrap ((↑k : Int) + 1)))] [(.head 3 0,.box (encHead h) true),
       (.head 5 0,.row 4 (List.map encHead acc) true true)]) (by simp [encHead,_w21]) (again ((k + (1 : Nat),Bool.true,acc)) ⟨(by dsimp only; omega),⟨(by dsimp only; omega),(by dsimp only; (clear again; (rw [drop_at ‹_›] at hs; simp_all [insGo]; done)))⟩⟩ (by dsimp only; omega))))))))))))))))
       (fun _h14 => .F (have _w22 : List.take acc.length (List.map encHead acc) = List.map encHead acc := List.take_of_length_le (by simp); .q (Res.mk
       (.tree (List.take acc.length (List.map encHead acc))) [] []) (by (clear again; (rw [List.drop_of_length_le (by omega)] at hs; simp_all [insGo]; done))))))
theorem c96 (l : List Version) (v : Version) (hl : l.length ≤ 1000) : X.call 96 [.tree (l.map encVersion),encVersion v] [] ⟨.tree ((putV l v).map encVersion),[],[]⟩ := by
  refine spec_of ok Go.Proofs.Tryz.func96 ok96 ?_
  have again_l : putV l v = insV l v → Sat X 96 (loopD X.cfg 96 Go.Proofs.Tryz.f96 0 7 ⟨[(0,.tree (l.map encVersion)),(3,.ref (.head 3 0) 0 0),(7,.sref (.head 7 0) 0 0),(8,.bool false),(9,.int .i64 0)],[(.head 3 0,.box (encVersion v) true),(.head 7 0,.row 8 [] true true)]⟩) (· = ⟨.tree ((putV l v).map encVersion),[],[]⟩) := by
    intro e0
    rw [e0]
    refine Sat.pLoop 7 (St.mk [(0,.tree (List.map encVersion l)),(3,.ref (.head 3 0) 0 0),(7,.sref (.head 7 0) 0 0),(8,.bool false),(9,.int .i64 0)] [(.head 3 0,.box (encVersion v) true),
     (.head 7 0,.row 8 [] true true)]) (by kernel_rfl) (fun (p : Nat × Bool × List Version) => ⟨[(0,.tree (l.map encVersion)),(3,.ref (.head 3 0) 0 0),(7,.sref
     (.head 7 0) 0 p.2.2.length),(8,.bool p.2.1),(9,.int .i64 p.1)],[(.head 3 0,.box (encVersion v) true),
     (.head 7 0,.row 8 (p.2.2.map encVersion) true true)]⟩) (fun p => p.1 ≤ l.length ∧ p.2.2.length ≤ p.1 + p.2.1.toNat ∧ (if p.2.1 then p.2.2 ++ (l.drop p.1).filter (fun y => decide (y.Item ≠ v.Item)) = insV l v else p.2.2 ++ insV (l.drop p.1) v = insV l v)) (fun p => l.length - p.1) (0,false,[]) rfl ?_ ?_
    · exact ⟨by simp,by simp,rfl⟩
    · rintro ⟨k,put,acc⟩ hI again
      obtain ⟨hk,hal,hs⟩ := hI
      cases put <;> simp only [Bool.toNat_false,Bool.toNat_true,if_true,if_false,Bool.false_eq_true] at hk hal hs
      · refine (.kl encVersion l k (fun _h13 => .T (.T (.T (.T (.em encVersion l k ‹_› (fun _x14 _hx15 => .T (.T (.T (.T (.T (.T (.i (v.Item ≤ _x14.Item)
         (fun _h16 => .i ((acc.length + 1) * (96 : Nat) ≤ 140737488355328) (fun _h17 => .k (acc.length = (List.map encVersion acc).length) (True) (by simp only [List.length_map]) (fun _h18 => .T
         (.eh encVersion _hx15 (.j (_x14.Item = v.Item) (fun _h19 => .T (.eh encVersion _hx15 (.i ((acc.length + 1 + 1) * (96 : Nat) ≤ 140737488355328)
         (fun _h20 => .et (acc.length + 1 = (List.map encVersion acc ++ [encVersion v]).length) (by simp only [List.length_map,List.length_append,List.length_cons,List.length_nil]) _h18
         (have _w21 := wI64' ((↑k : Int) + (1 : Int)); .A (St.mk [(0,.tree (List.map encVersion l)),(3,.ref (.head 3 0) 0 0),(7,.sref
         (.head 7 0) 0 (acc.length + 1 + 1)),(8,.bool true),(9,.int .i64 (IntKind.i64.wrap ((↑k : Int) + 1)))] [(.head 3 0,.box (encVersion v) true),
         (.head 7 0,.row 8 (List.map encVersion acc ++ [encVersion v] ++ [encVersion _x14]) true true)]) (by simp [encVersion,_w21]) (again ((k + (1 : Nat),Bool.true,acc ++ [v] ++ [_x14])) ⟨(by dsimp only; omega),⟨(by dsimp only; (clear again; (simp; omega))),(by dsimp only; (clear again; (rw [drop_at ‹_›] at hs; simp_all [insV]; done)))⟩⟩ (by dsimp only; omega))))
         (fun _h20 => False.elim (by omega))))) (fun _h19 => have _w22 := wI64' ((↑k : Int) + (1 : Int)); .A (St.mk [(0,.tree (List.map encVersion l)),(3,.ref (.head 3 0) 0 0),(7,.sref
         (.head 7 0) 0 (acc.length + 1)),(8,.bool true),(9,.int .i64 (IntKind.i64.wrap ((↑k : Int) + 1)))] [(.head 3 0,.box (encVersion v) true),
         (.head 7 0,.row 8 (List.map encVersion acc ++ [encVersion v]) true true)]) (by simp [encVersion,_w22]) (again ((k + (1 : Nat),Bool.true,acc ++ [v])) ⟨(by dsimp only; omega),⟨(by dsimp only; (clear again; (simp; omega))),(by dsimp only; (clear again; (rw [drop_at ‹_›] at hs; simp_all [insV]; done)))⟩⟩ (by dsimp only; omega))))))
         (fun _h18 => (_h18 trivial).elim)) (fun _h17 => False.elim (by omega))) (fun _h16 => .T (.eh encVersion _hx15 (.j (_x14.Item = v.Item) (fun _h23 => .T (.eh encVersion _hx15
         (.i ((acc.length + 1) * (96 : Nat) ≤ 140737488355328) (fun _h24 => .k (acc.length = (List.map encVersion acc).length) (True) (by simp only [List.length_map])
         (fun _h25 => have _w26 := wI64' ((↑k : Int) + (1 : Int)); .A (St.mk [(0,.tree (List.map encVersion l)),(3,.ref (.head 3 0) 0 0),(7,.sref
         (.head 7 0) 0 (acc.length + 1)),(8,.bool false),(9,.int .i64 (IntKind.i64.wrap ((↑k : Int) + 1)))] [(.head 3 0,.box (encVersion v) true),
         (.head 7 0,.row 8 (List.map encVersion acc ++ [encVersion _x14]) true true)]) (by simp [encVersion,_w26]) (again ((k + (1 : Nat),Bool.false,acc ++ [_x14])) ⟨(by dsimp only; omega),⟨(by dsimp only; (clear again; (simp; omega))),(by dsimp only; (clear again; (rw [drop_at ‹_›] at hs; simp_all [insV]; done)))⟩⟩ (by dsimp only; omega)))
         (fun _h25 => (_h25 trivial).elim)) (fun _h24 => False.elim (by omega))))) (fun _h23 => False.elim (by omega))))))))))))))))) (fun _h13 => .T (.i ((acc.length + 1) * (96 : Nat) ≤ 140737488355328)
         (fun _h27 => .k (acc.length = (List.map encVersion acc).length) (True) (by simp only [List.length_map])
         (fun _h28 => have _w29 : List.take (acc.length + (1 : Nat)) (List.map encVersion acc ++ [encVersion v]) = List.map encVersion acc ++ [encVersion v] := List.take_of_length_le (by simp); .q (Res.mk
         (.tree (List.take (acc.length + 1) (List.map encVersion acc ++ [encVersion v]))) [] []) (by (clear again; (rw [List.drop_of_length_le (by omega)] at hs; rw [← hs]; simp [insV,List.take_of_length_le]))))
         (fun _h28 => (_h28 trivial).elim)) (fun _h27 => False.elim (by omega)))))
      · refine (.kl encVersion l k (fun _h13 => .F (.F (.F (.F (.F (.F (.F (.F (.F (.F (.T (.em encVersion l k ‹_› (fun _x14 _hx15 => .j (_x14.Item = v.Item) (fun _h16 => .T (.eh encVersion _hx15
         (.i ((acc.length + 1) * (96 : Nat) ≤ 140737488355328) (fun _h17 => .k (acc.length = (List.map encVersion acc).length) (True) (by simp only [List.length_map])
         (fun _h18 => have _w19 := wI64' ((↑k : Int) + (1 : Int)); .A (St.mk [(0,.tree (List.map encVersion l)),(3,.ref (.head 3 0) 0 0),(7,.sref
         (.head 7 0) 0 (acc.length + 1)),(8,.bool true),(9,.int .i64 (IntKind.i64.wrap ((↑k : Int) + 1)))] [(.head 3 0,.box (encVersion v) true),
         (.head 7 0,.row 8 (List.map encVersion acc ++ [encVersion _x14]) true true)]) (by simp [encVersion,_w19]) (again ((k + (1 : Nat),Bool.true,acc ++ [_x14])) ⟨(by dsimp only; omega),⟨(by dsimp only; (clear again; (simp; omega))),(by dsimp only; (clear again; (rw [drop_at ‹_›] at hs; simp_all [insV]; done)))⟩⟩ (by dsimp only; omega)))
         (fun _h18 => (_h18 trivial).elim)) (fun _h17 => False.elim (by omega))))) (fun _h16 => have _w20 := wI64' ((↑k : Int) + (1 : Int)); .A (St.mk [(0,.tree (List.map encVersion l)),(3,.ref
         (.head 3 0) 0 0),(7,.sref (.head 7 0) 0 acc.length),(8,.bool true),(9,.int .i64 (IntKind.i64.wrap ((↑k : Int) + 1)))] [(.head 3 0,.box (encVersion v) true),
         (.head 7 0,.row 8 (List.map encVersion acc) true true)]) (by simp [encVersion,_w20]) (again ((k + (1 : Nat),Bool.true,acc)) ⟨(by dsimp only; omega),⟨(by dsimp only; omega),(by dsimp only; (clear again; (rw [drop_at ‹_›] at hs; simp_all [insV]; done)))⟩⟩ (by dsimp only; omega))))))))))))))))
         (fun _h13 => .F (have _w21 : List.take acc.length (List.map encVersion acc) = List.map encVersion acc := List.take_of_length_le (by simp); .q (Res.mk
         (.tree (List.take acc.length (List.map encVersion acc))) [] []) (by (clear again; (rw [List.drop_of_length_le (by omega)] at hs; simp_all [insV]; done))))))
  refine (.c (@Tryz.c30 (l) (v.Item) (by omega)) (.n ((findV l v.Item).isSome) (fun _h5 => .t _h5 (.t _h5 (.t _h5 (.t _h5
   (.c (@Tryz.c32 (((findV l v.Item).getD (Version.mk (0 : Int) (Stamp.mk (0 : Int) (0 : Int) (0 : Int)) Bool.false [] [] [])).S) (v.S)) (.t _h5 (.t _h5
   (.i (0 < ((findV l v.Item).getD (Version.mk 0 (Stamp.mk 0 0 0) false [] [] [])).S.cmp v.S) (fun _h6 => .z encVersion l 8 (fun _ => rfl)
   (.k ((0 + (List.map encVersion l).length) * (96 : Nat) ≤ 140737488355328) ((0 + l.length) * (96 : Nat) ≤ 140737488355328) (by simp only [List.length_map]) (fun _h7 => .T
   (have _w8 : List.take ((0 : Nat) + (List.map encVersion l).length) (List.map encVersion l) = List.map encVersion l := List.take_of_length_le (by simp); .q (Res.mk
   (.tree (List.take (0 + (List.map encVersion l).length) (List.map encVersion l))) [] []) (by (clear again_l; (cases hf : findV l v.Item <;> simp_all [putV]; done)))))
   (fun _h7 => False.elim (by omega)))) (fun _h6 => Sat.pJoinE (L := loopD X.cfg (96 : FuncId) Proofs.Tryz.f96 0 7) (St.mk [(0,.tree (List.map encVersion l)),(3,.ref (.head 3 0) 0 0),(7,.sref
   (.head 7 0) 0 0),(8,.bool false),(9,.int .i64 0)] [(.head 3 0,.box (encVersion v) true),
   (.head 7 0,.row 8 [] true true)]) (by kernel_rfl) rfl rfl (again_l (by (clear again_l; grind [putV])))))))))))) (fun _h5 => .f _h5 (.f _h5 (.f _h5 (.f _h5 (.f _h5 (.f _h5 (.F
   (Sat.pJoinE (L := loopD X.cfg (96 : FuncId) Proofs.Tryz.f96 0 7) (St.mk [(0,.tree (List.map encVersion l)),(3,.ref (.head 3 0) 0 0),(7,.sref
   (.head 7 0) 0 0),(8,.bool false),(9,.int .i64 0)] [(.head 3 0,.box (encVersion v) true),
   (.head 7 0,.row 8 [] true true)]) (by kernel_rfl) rfl rfl (again_l (by (clear again_l; (cases hf : findV l v.Item <;> simp_all [putV]; done))))))))))))))
end Go.Ab.Tryz
