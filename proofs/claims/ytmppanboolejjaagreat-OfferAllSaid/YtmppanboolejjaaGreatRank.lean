/- Package rank, as plain Lean. -/
import Derived.Test.YtmppanboolejjaaGreatRef1f
import Derived.Test.YtmppanboolejjaaGreatG3
namespace Go.Ab.Tryz
open Go
set_option maxRecDepth 100000
set_option maxHeartbeats 4000000
theorem c62 (l : List Attr) (hl : l.length ≤ 1000) :
    X.call 62 [.tree (l.map encAttr)] [] ⟨.sref (.out 0) 0 l.length,[],[.row 2 (l.map encAttr) true true]⟩ := by
  refine spec_of ok Go.Proofs.Tryz.func62 ok62 ?_
  refine (Sat.pNodeE ((List.map encAttr l).isEmpty) (l = []) (by kernel_rfl) (by simp only [List.isEmpty_map,List.isEmpty_iff]) (fun _h3 => .b (.T (.q (Res.mk (.sref
   (.out 0) 0 0) [] [.row 2 [] true true]) (by simp_all))) (.F (.z encAttr l 2 (fun _ => rfl)
   (.k ((0 + (List.map encAttr l).length) * (16 : Nat) ≤ 140737488355328) ((0 + l.length) * (16 : Nat) ≤ 140737488355328) (by simp only [List.length_map]) (fun _h4 => .T (.q (Res.mk (.sref
   (.out 0) 0 (0 + (List.map encAttr l).length)) [] [.row 2 (List.map encAttr l) true true]) (by simp_all))) (fun _h4 => False.elim (by omega)))))) (fun _h3 => .F (.z encAttr l 2 (fun _ => rfl)
   (.k ((0 + (List.map encAttr l).length) * (16 : Nat) ≤ 140737488355328) ((0 + l.length) * (16 : Nat) ≤ 140737488355328) (by simp only [List.length_map]) (fun _h5 => .T (.q (Res.mk (.sref
   (.out 0) 0 (0 + (List.map encAttr l).length)) [] [.row 2 (List.map encAttr l) true true]) (by simp_all))) (fun _h5 => False.elim (by omega))))))
theorem c115 (l : List Head) (hl : l.length ≤ 1000) :
    X.call 115 [.tree (l.map encHead)] [] ⟨.sref (.out 0) 0 l.length,[],[.row 4 (l.map encHead) true true]⟩ := by
  refine spec_of ok Go.Proofs.Tryz.func115 ok115 ?_
  refine (Sat.pNodeE ((List.map encHead l).isEmpty) (l = []) (by kernel_rfl) (by simp only [List.isEmpty_map,List.isEmpty_iff]) (fun _h3 => .b (.T (.q (Res.mk (.sref
   (.out 0) 0 0) [] [.row 4 [] true true]) (by simp_all))) (.F (.z encHead l 4 (fun _ => rfl)
   (.k ((0 + (List.map encHead l).length) * (32 : Nat) ≤ 140737488355328) ((0 + l.length) * (32 : Nat) ≤ 140737488355328) (by simp only [List.length_map]) (fun _h4 => .T (.q (Res.mk (.sref
   (.out 0) 0 (0 + (List.map encHead l).length)) [] [.row 4 (List.map encHead l) true true]) (by simp_all))) (fun _h4 => False.elim (by omega)))))) (fun _h3 => .F (.z encHead l 4 (fun _ => rfl)
   (.k ((0 + (List.map encHead l).length) * (32 : Nat) ≤ 140737488355328) ((0 + l.length) * (32 : Nat) ≤ 140737488355328) (by simp only [List.length_map]) (fun _h5 => .T (.q (Res.mk (.sref
   (.out 0) 0 (0 + (List.map encHead l).length)) [] [.row 4 (List.map encHead l) true true]) (by simp_all))) (fun _h5 => False.elim (by omega))))))
theorem c116 (l : List Int) (hl : l.length ≤ 1000) :
    X.call 116 [.tree (l.map encI)] [] ⟨.sref (.out 0) 0 l.length,[],[.row 1 (l.map encI) true true]⟩ := by
  refine spec_of ok Go.Proofs.Tryz.func116 ok116 ?_
  refine (Sat.pNodeE ((List.map encI l).isEmpty) (l = []) (by kernel_rfl) (by simp only [List.isEmpty_map,List.isEmpty_iff]) (fun _h3 => .b (.T (.q (Res.mk (.sref
   (.out 0) 0 0) [] [.row 1 [] true true]) (by simp_all))) (.F (.z encI l 1 (fun _ => rfl)
   (.k ((0 + (List.map encI l).length) * (8 : Nat) ≤ 140737488355328) ((0 + l.length) * (8 : Nat) ≤ 140737488355328) (by simp only [List.length_map]) (fun _h4 => .T (.q (Res.mk (.sref
   (.out 0) 0 (0 + (List.map encI l).length)) [] [.row 1 (List.map encI l) true true]) (by simp_all))) (fun _h4 => False.elim (by omega)))))) (fun _h3 => .F (.z encI l 1 (fun _ => rfl)
   (.k ((0 + (List.map encI l).length) * (8 : Nat) ≤ 140737488355328) ((0 + l.length) * (8 : Nat) ≤ 140737488355328) (by simp only [List.length_map]) (fun _h5 => .T (.q (Res.mk (.sref
   (.out 0) 0 (0 + (List.map encI l).length)) [] [.row 1 (List.map encI l) true true]) (by simp_all))) (fun _h5 => False.elim (by omega))))))
end Go.Ab.Tryz
