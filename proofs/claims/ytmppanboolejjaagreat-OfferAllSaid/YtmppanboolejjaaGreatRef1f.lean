/- Package cardamomref1: versions that may be, as plain Lean. -/
import Derived.Test.YtmppanboolejjaaGreatRef1e
namespace Go.Ab.Tryz
open Go
set_option maxRecDepth 100000
set_option maxHeartbeats 4000000
def lastA (l : List Attr) : Nat → Int
  | 0 => -1
  | k + 1 => ((l[k]?).map Attr.Key).getD (-1)
theorem c71 (v : Version) (ha : v.Attrs.length ≤ 100000) (ht : v.Tag.length ≤ 100000) (hb : v.Body.length ≤ 100000) : X.call 71 [encVersion v] [] ⟨.bool v.may,[],[]⟩ := by
  refine spec_of ok Go.Proofs.Tryz.func71 ok71 ?_
  have again_l : v.may = attrsMay (-1) v.Attrs → v.Attrs.length ≤ 3 → Sat X 71 (loopD X.cfg 71 Go.Proofs.Tryz.f71 0 4 ⟨[(1,.ref (.head 1 0) 0 0),(3,.int .i64 0)],[(.head 1 0,.box (encVersion v) true)]⟩) (· = ⟨.bool v.may,[],[]⟩) := by
    intro e0 e1
    rw [e0]
    refine Sat.pLoop 4 (St.mk [(1,.ref (.head 1 0) 0 0),(3,.int .i64 0)] [(.head 1 0,.box (encVersion v) true)]) (by kernel_rfl) (fun (k : Nat) => ⟨[(1,.ref
     (.head 1 0) 0 0),(3,.int .i64 k)],[(.head 1 0,.box (encVersion v) true)]⟩) (fun k => k ≤ v.Attrs.length ∧ attrsMay (-1) v.Attrs = attrsMay (lastA v.Attrs k) (v.Attrs.drop k) ∧ -1 ≤ lastA v.Attrs k) (fun k => v.Attrs.length - k) 0 rfl ?_ ?_
    · simp [lastA]
    · intro k hI again
      have hk := hI.1
      have hs := hI.2.1
      have hl := hI.2.2
      clear hI
      have h0 : k = 0 ∨ ∃ j,k = j + 1 := by cases k <;> simp
      refine (.kl encAttr v.Attrs k (fun _h14 => .T (.em encAttr v.Attrs k ‹_› (fun _x15 _hx16 => .i (_x15.Key < 0) (fun _h17 => .it _h17 (.it _h17 (.it _h17 (.T (.T (.T (.T (.T (.T (.T (.T (.T (.T (.T (.T
       (.T (.T (.q (Res.mk (.bool false) [] []) (by (clear again; (rw [hs,drop_at ‹_›]; simp only [attrsMay]; rw [decide_eq_false (by omega)]; rfl))))))))))))))))))))) (fun _h17 => .iF _h17 (.iF _h17
       (.iF _h17 (.i (4 ≤ _x15.Key) (fun _h18 => .it _h18 (.it _h18 (.it _h18 (.T (.T (.T (.T (.T (.T (.T (.T (.T (.T (.q (Res.mk
       (.bool false) [] []) (by (clear again; (rw [hs,drop_at ‹_›]; simp only [attrsMay]; rw [decide_eq_false (by omega)]; rfl))))))))))))))))) (fun _h18 => .iF _h18 (.iF _h18 (.iF _h18 (.i (_x15.Val < 0)
       (fun _h19 => .it _h19 (.it _h19 (.it _h19 (.T (.T (.T (.T (.T (.T (.q (Res.mk
       (.bool false) [] []) (by (clear again; (rw [hs,drop_at ‹_›]; simp only [attrsMay]; rw [decide_eq_false (by omega)]; rfl))))))))))))) (fun _h19 => .iF _h19 (.iF _h19 (.iF _h19 (.i (99 < _x15.Val)
       (fun _h20 => .it _h20 (.it _h20 (.it _h20 (.it _h20 (.T (.q (Res.mk (.bool false) [] []) (by (clear again; (rw [hs,drop_at ‹_›]; simp only [attrsMay]; rw [decide_eq_false (by omega)]; rfl)))))))))
       (fun _h20 => .iF _h20 (.iF _h20 (.k (0 < (↑k : Int)) (0 < k) (by simp only [ciLt]) (fun _h21 => .et (0 < (↑k : Int)) (by simp only [ciLt]) _h21 (.et (0 < (↑k : Int)) (by simp only [ciLt]) _h21
       (.et (0 < (↑k : Int)) (by simp only [ciLt]) _h21 (.et (0 < (↑k : Int)) (by simp only [ciLt]) _h21 (.et (0 < (↑k : Int)) (by simp only [ciLt]) _h21 (.et (0 < (↑k : Int)) (by simp only [ciLt]) _h21
       (have _w22 := wI64' ((↑k : Int) - (1 : Int)); .k (0 ≤ IntKind.i64.wrap ((↑k : Int) - 1)) (0 ≤ (↑k : Int) - 1) (by simp only [_w22])
       (fun _h23 => .eM encAttr v.Attrs ((IntKind.i64.wrap ((↑k : Int) - 1)).toNat) (((↑k : Int) - 1).toNat) (by simp only [_w22]) (by omega) (fun _x24 _hx25 => .et (0 < (↑k : Int)) (by simp only [ciLt]) _h21
       (.et (0 < (↑k : Int)) (by simp only [ciLt]) _h21 (.et (0 < (↑k : Int)) (by simp only [ciLt]) _h21 (.iF _h20 (.et (0 < (↑k : Int)) (by simp only [ciLt]) _h21 (.iF _h20 (.i (_x15.Key ≤ _x24.Key)
       (fun _h26 => .q (Res.mk (.bool false) [] []) (by (clear again; (rw [hs,drop_at ‹_›]; rcases h0 with rfl | ⟨j,rfl⟩ <;> simp_all [attrsMay,lastA] <;> omega))))
       (fun _h26 => have _w27 := wI64' ((↑k : Int) + (1 : Int)); .A (St.mk [(1,.ref
       (.head 1 0) 0 0),(3,.int .i64 (IntKind.i64.wrap ((↑k : Int) + 1)))] [(.head 1 0,.box (encVersion v) true)]) (by simp [encVersion,_w27]) (again (k + (1 : Nat)) ⟨(by omega),⟨(by (clear again; (rw [hs,drop_at ‹_›]; rcases h0 with rfl | ⟨j,rfl⟩ <;> simp_all [attrsMay,lastA] <;> omega))),(by (clear again; (rw [drop_at ‹_›] at hs; rcases h0 with rfl | ⟨j,rfl⟩ <;> simp_all [attrsMay,lastA] <;> omega)))⟩⟩ (by omega)))))))))))
       (fun _h23 => False.elim (by omega))))))))) (fun _h21 => .eF (0 < (↑k : Int)) (by simp only [ciLt]) _h21 (.eF (0 < (↑k : Int)) (by simp only [ciLt]) _h21 (.eF (0 < (↑k : Int)) (by simp only [ciLt]) _h21
       (.eF (0 < (↑k : Int)) (by simp only [ciLt]) _h21 (.eF (0 < (↑k : Int)) (by simp only [ciLt]) _h21 (.eF (0 < (↑k : Int)) (by simp only [ciLt]) _h21 (.eF (0 < (↑k : Int)) (by simp only [ciLt]) _h21
       (.eF (0 < (↑k : Int)) (by simp only [ciLt]) _h21 (.eF (0 < (↑k : Int)) (by simp only [ciLt]) _h21 (.iF _h20 (.eF (0 < (↑k : Int)) (by simp only [ciLt]) _h21 (.iF _h20 (.F
       (have _w28 := wI64' ((↑k : Int) + (1 : Int)); .A (St.mk [(1,.ref
       (.head 1 0) 0 0),(3,.int .i64 (IntKind.i64.wrap ((↑k : Int) + 1)))] [(.head 1 0,.box (encVersion v) true)]) (by simp [encVersion,_w28]) (again (k + (1 : Nat)) ⟨(by omega),⟨(by (clear again; (rw [hs,drop_at ‹_›]; rcases h0 with rfl | ⟨j,rfl⟩ <;> simp_all [attrsMay,lastA] <;> omega))),(by (clear again; (rw [drop_at ‹_›] at hs; rcases h0 with rfl | ⟨j,rfl⟩ <;> simp_all [attrsMay,lastA] <;> omega)))⟩⟩ (by omega))))))))))))))))))))))))))))))))))
       (fun _h14 => .q (Res.mk (.bool true) [] []) (by (clear again; (rw [hs,List.drop_of_length_le (by omega)]; simp [attrsMay])))))
  refine (.i (v.Item < 1) (fun _h6 => .it _h6 (.it _h6 (.it _h6 (.T (.T (.T (.T (.T (.T (.T (.T (.T (.T (.T (.T (.T (.T (.T (.T (.T (.T (.T (.T (.T (.T (.T (.T (.T (.T (.q (Res.mk
   (.bool false) [] []) (by (clear again_l; (simp [Version.may]; omega))))))))))))))))))))))))))))))))) (fun _h6 => .iF _h6 (.iF _h6 (.iF _h6 (.i (6 < v.Item) (fun _h7 => .it _h7 (.it _h7 (.it _h7
   (.it _h7 (.T (.T (.T (.T (.T (.T (.T (.T (.T (.T (.T (.T (.T (.T (.T (.T (.T (.T (.T (.T (.T (.q (Res.mk (.bool false) [] []) (by (clear again_l; (simp [Version.may]; omega)))))))))))))))))))))))))))))
   (fun _h7 => .iF _h7 (.iF _h7 (.c (@Tryz.c108 (v.S)) (.iF _h7 (.iF _h7 (.m v.S.may (fun _h8 => .y _h8 (.y _h8 (.y _h8 (.y _h8 (.T (.T (.T (.T (.T (.T (.T (.T (.T (.T (.T (.T (.T (.T (.T (.T (.q (Res.mk
   (.bool false) [] []) (by (clear again_l; (simp_all [Version.may]; done)))))))))))))))))))))))) (fun _h8 => .x _h8 (.x _h8 (.x _h8 (.x _h8
   (.k (3 < (↑(List.map encAttr v.Attrs).length : Int)) (3 < v.Attrs.length) (by simp only [List.length_map,ciLt])
   (fun _h9 => .et (3 < (↑(List.map encAttr v.Attrs).length : Int)) (by simp only [List.length_map,ciLt]) _h9
   (.et (3 < (↑(List.map encAttr v.Attrs).length : Int)) (by simp only [List.length_map,ciLt]) _h9 (.et (3 < (↑(List.map encAttr v.Attrs).length : Int)) (by simp only [List.length_map,ciLt]) _h9
   (.et (3 < (↑(List.map encAttr v.Attrs).length : Int)) (by simp only [List.length_map,ciLt]) _h9 (.T (.T (.T (.T (.T (.T (.T (.T (.T (.T (.T (.q (Res.mk
   (.bool false) [] []) (by (clear again_l; (simp [Version.may]; omega))))))))))))))))))) (fun _h9 => .eF (3 < (↑(List.map encAttr v.Attrs).length : Int)) (by simp only [List.length_map,ciLt]) _h9
   (.eF (3 < (↑(List.map encAttr v.Attrs).length : Int)) (by simp only [List.length_map,ciLt]) _h9 (.c (@Tryz.c109 (v.Tag) ((6 : Int)) ‹_›)
   (.eF (3 < (↑(List.map encAttr v.Attrs).length : Int)) (by simp only [List.length_map,ciLt]) _h9 (.eF (3 < (↑(List.map encAttr v.Attrs).length : Int)) (by simp only [List.length_map,ciLt]) _h9
   (Sat.pNodeEN (v.Tag.all isLetter && decide ((↑v.Tag.length : Int) ≤ (6 : Int))) (v.Tag.all isLetter = Bool.true ∧ v.Tag.length ≤ (6 : Nat)) (by kernel_rfl) (by simp only [Bool.and_eq_true,decide_eq_true_eq,icLe])
   (fun _h10 => Sat.pNodeENF (v.Tag.all isLetter && decide ((↑v.Tag.length : Int) ≤ (6 : Int))) (v.Tag.all isLetter = Bool.true ∧ v.Tag.length ≤ (6 : Nat)) (by kernel_rfl) (by simp only [Bool.and_eq_true,decide_eq_true_eq,icLe]) _h10
   (Sat.pNodeENF (v.Tag.all isLetter && decide ((↑v.Tag.length : Int) ≤ (6 : Int))) (v.Tag.all isLetter = Bool.true ∧ v.Tag.length ≤ (6 : Nat)) (by kernel_rfl) (by simp only [Bool.and_eq_true,decide_eq_true_eq,icLe]) _h10
   (Sat.pNodeENF (v.Tag.all isLetter && decide ((↑v.Tag.length : Int) ≤ (6 : Int))) (v.Tag.all isLetter = Bool.true ∧ v.Tag.length ≤ (6 : Nat)) (by kernel_rfl) (by simp only [Bool.and_eq_true,decide_eq_true_eq,icLe]) _h10
   (Sat.pNodeENF (v.Tag.all isLetter && decide ((↑v.Tag.length : Int) ≤ (6 : Int))) (v.Tag.all isLetter = Bool.true ∧ v.Tag.length ≤ (6 : Nat)) (by kernel_rfl) (by simp only [Bool.and_eq_true,decide_eq_true_eq,icLe]) _h10
   (.T (.T (.T (.T (.T (.T (.q (Res.mk (.bool false) [] []) (by (clear again_l; grind [Version.may])))))))))))))
   (fun _h10 => Sat.pNodeENT (v.Tag.all isLetter && decide ((↑v.Tag.length : Int) ≤ (6 : Int))) (v.Tag.all isLetter = Bool.true ∧ v.Tag.length ≤ (6 : Nat)) (by kernel_rfl) (by simp only [Bool.and_eq_true,decide_eq_true_eq,icLe]) _h10
   (Sat.pNodeENT (v.Tag.all isLetter && decide ((↑v.Tag.length : Int) ≤ (6 : Int))) (v.Tag.all isLetter = Bool.true ∧ v.Tag.length ≤ (6 : Nat)) (by kernel_rfl) (by simp only [Bool.and_eq_true,decide_eq_true_eq,icLe]) _h10
   (Sat.pNodeENT (v.Tag.all isLetter && decide ((↑v.Tag.length : Int) ≤ (6 : Int))) (v.Tag.all isLetter = Bool.true ∧ v.Tag.length ≤ (6 : Nat)) (by kernel_rfl) (by simp only [Bool.and_eq_true,decide_eq_true_eq,icLe]) _h10
   (Sat.pNodeENT (v.Tag.all isLetter && decide ((↑v.Tag.length : Int) ≤ (6 : Int))) (v.Tag.all isLetter = Bool.true ∧ v.Tag.length ≤ (6 : Nat)) (by kernel_rfl) (by simp only [Bool.and_eq_true,decide_eq_true_eq,icLe]) _h10
   (.k (12 < (↑v.Body.length : Int)) (12 < v.Body.length) (by simp only [ciLt]) (fun _h19 => .et (12 < (↑v.Body.length : Int)) (by simp only [ciLt]) _h19
   (.et (12 < (↑v.Body.length : Int)) (by simp only [ciLt]) _h19 (.et (12 < (↑v.Body.length : Int)) (by simp only [ciLt]) _h19 (.et (12 < (↑v.Body.length : Int)) (by simp only [ciLt]) _h19 (.T (.q (Res.mk
   (.bool false) [] []) (by (clear again_l; (simp [Version.may]; omega))))))))) (fun _h19 => .eF (12 < (↑v.Body.length : Int)) (by simp only [ciLt]) _h19
   (.eF (12 < (↑v.Body.length : Int)) (by simp only [ciLt]) _h19 (.n v.Dead (fun _h20 => .t _h20 (.t _h20 (.eF (12 < (↑v.Body.length : Int)) (by simp only [ciLt]) _h19 (.t _h20
   (.eF (12 < (↑v.Body.length : Int)) (by simp only [ciLt]) _h19 (.j (v.Body = []) (fun _h21 => .q (Res.mk (.bool false) [] []) (by (clear again_l; (simp_all [Version.may]; done))))
   (fun _h21 => Sat.pJoinE (L := loopD X.cfg (71 : FuncId) Proofs.Tryz.f71 0 4) (St.mk [(1,.ref
   (.head 1 0) 0 0),(3,.int .i64 0)] [(.head 1 0,.box (encVersion v) true)]) (by kernel_rfl) rfl rfl (again_l (by (clear again_l; (simp_all [Version.may]; done))) (by omega)))))))))
   (fun _h20 => .f _h20 (.f _h20 (.eF (12 < (↑v.Body.length : Int)) (by simp only [ciLt]) _h19 (.f _h20 (.eF (12 < (↑v.Body.length : Int)) (by simp only [ciLt]) _h19 (.F
   (Sat.pJoinE (L := loopD X.cfg (71 : FuncId) Proofs.Tryz.f71 0 4) (St.mk [(1,.ref
   (.head 1 0) 0 0),(3,.int .i64 0)] [(.head 1 0,.box (encVersion v) true)]) (by kernel_rfl) rfl rfl (again_l (by (clear again_l; (simp_all [Version.may]; done))) (by omega)))))))))))))))))))))))))))))))))))))))
end Go.Ab.Tryz
