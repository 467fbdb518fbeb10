/- Package cardamomlaw27: how far it is, in any run. -/
import Derived.Test.YtmppanboolejjaaGreatPlay5
import Derived.Test.YtmppanboolejjaaGreatRank5
import Derived.Test.YtmppanboolejjaaGreatRef25b
import Derived.Test.YtmppanboolejjaaGreatRef25g
import Derived.Test.YtmppanboolejjaaGreatLaw27b
namespace Go.Ab.Tryz
open Go
set_option maxRecDepth 100000
set_option maxHeartbeats 4000000
theorem c19 (m : Mesh) (size k : Nat) (B : Int) (h : m.Ok size B k) (hB2 : B ≤ 900000000) (hk : k ≤ 800) : X.call 19 [encMesh m] [] ⟨.int .i64 (IntKind.i64.wrap (IntKind.i64.wrap (m.stale * 31) + m.missing)),[],[]⟩ := by
  have c1 := c15 m size k B h hB2
  have c2 := c17 m size k B h hB2 hk
  clear h
  refine spec_of ok Go.Proofs.Tryz.func19 ok19 ?_
  refine (.c (@c1) (.c (@c2) .r))
abbrev Alike (m : Mesh) : Prop := ∃ a b c : Int,X.call 15 [encMesh m] [] ⟨.int .i64 a,[],[]⟩ ∧ X.call 16 [encMesh m] [] ⟨.int .i64 a,[],[]⟩ ∧ X.call 17 [encMesh m] [] ⟨.int .i64 b,[],[]⟩ ∧ X.call 18 [encMesh m] [] ⟨.int .i64 b,[],[]⟩ ∧ X.call 19 [encMesh m] [] ⟨.int .i64 c,[],[]⟩ ∧ X.call 20 [encMesh m] [] ⟨.int .i64 c,[],[]⟩
theorem alike_ok {m : Mesh} {size k : Nat} {B : Int} (h : m.Ok size B k) (hB2 : B ≤ 10000000) (hk : k ≤ 800) : Alike m := by
  have hrl := h.rl
  have hs5 := h.s5
  have hil := h.il
  have ev : ∀ r ∈ m.Repls,r.Views.length ≤ 1000 ∧ (ownOf r.ID r.Views).Epochs.length ≤ 1000 := fun r hr => by
    have o := h.mem hr
    have := o.vl
    have := o.own_el
    exact ⟨by omega,by show r.own.Epochs.length ≤ 1000; omega⟩
  have sv : ∀ r ∈ m.Repls,r.Views.length ≤ 1000 ∧ (ownOf r.ID r.Views).Seen.length ≤ 1000 := fun r hr => by
    have o := h.mem hr
    have := headsMay_len (by omega) o.own_ok.s
    exact ⟨(ev r hr).1,by show r.own.Seen.length ≤ 1000; omega⟩
  have ee : ∀ r ∈ m.Repls,∀ e ∈ (ownOf r.ID r.Views).Epochs,0 ≤ e ∧ e ≤ 10000000 := fun r hr e he => by
    have := (h.mem hr).own_ok.e e he
    omega
  exact ⟨_,_,_,c15 m size k B h (by omega),c16 m (by omega) ev ee,c17 m size k B h (by omega) hk,c18 m (by omega) (by omega) sv,c19 m size k B h (by omega) hk,c20 m (by omega) (by omega) ev sv ee⟩
theorem alike_zero : Alike Mesh.zero :=
  ⟨0,0,0,ev_ok envOk 1000 _ _ _ _ (by kernel_rfl),ev_ok envOk 1000 _ _ _ _ (by kernel_rfl),ev_ok envOk 1000 _ _ _ _ (by kernel_rfl),ev_ok envOk 1000 _ _ _ _ (by kernel_rfl),ev_ok envOk 1000 _ _ _ _ (by kernel_rfl),ev_ok envOk 1000 _ _ _ _ (by kernel_rfl)⟩
theorem round_all (j : Nat) (hj : j ≤ 800) (m : Mesh) (hm : RunOk j m) : ∃ m',X.call 14 [encMesh m] [] ⟨encMesh m',[],[]⟩ ∧ Alike m' := by
  rcases hm with ⟨size,h⟩ | rfl
  · obtain ⟨m',c,h'⟩ := round_ex m size j _ h (by omega) (by omega)
    exact ⟨m',c,alike_ok h' (by omega) hj⟩
  · exact ⟨Mesh.zero,ev_ok envOk 1000 _ _ _ _ (by kernel_rfl),alike_zero⟩
theorem c3 (l : List UInt8) : X.call 3 [.tree (l.map encB)] [] ⟨.bool true,[],[]⟩ := by
  by_cases hl : l.length ≤ 250
  · obtain ⟨q,p1,c1,q0,q1,l1⟩ := num_ex ⟨l,0⟩ (by simp only; omega) 9 (by omega) (by omega)
    obtain ⟨m0,p2,c2,o2,l2⟩ := mesh_ex p1 l1 q
    obtain ⟨⟨m,p3⟩,c3,o3,l3⟩ := run_ex m0 o2 p2 l2 50 (by omega)
    simp only at c3 o3 l3
    obtain ⟨m',c4,a,b,c,r1,r2,r3,r4,r5,r6⟩ := round_all 50 (by omega) m o3
    have am : Alike m := by
      rcases o3 with ⟨size,h⟩ | rfl
      · exact alike_ok h (by omega) (by omega)
      · exact alike_zero
    obtain ⟨a',b',c',s1,s2,s3,s4,s5,s6⟩ := am
    clear o2 o3
    refine spec_of ok Go.Proofs.Tryz.func3 ok3 ?_
    refine (.c (@Tryz.c9) (.F (.k (250 < (↑(List.map encB l).length : Int)) (250 < l.length) (by simp only [List.length_map,ciLt]) (fun _h39 => False.elim (by omega)) (fun _h39 => .c (@Tryz.c10 (l))
     (.c (@c1) (.c (@c2) (.c (@c3) (.c (@c4) ?_))))))))
    refine Sat.pUnroll 9 (St.mk [(5,.tree [encMesh m,encMesh m']),(6,.int .i64 0)] []) (by kernel_rfl) ?_
    refine (.T (.T
     (Sat.pElem ([AV.agg [AV.int IntKind.i64 m.Size,AV.int IntKind.i64 m.Batch,AV.tree (List.map encEdge m.Edges),AV.tree (List.map encRepl m.Repls),AV.tree (List.map encGram m.Fly),AV.tree (List.map encVersion m.Issued)],AV.agg [AV.int IntKind.i64 m'.Size,AV.int IntKind.i64 m'.Batch,AV.tree (List.map encEdge m'.Edges),AV.tree (List.map encRepl m'.Repls),AV.tree (List.map encGram m'.Fly),AV.tree (List.map encVersion m'.Issued)]]) ((0 : Nat)) (AV.agg [AV.int IntKind.i64 m.Size,AV.int IntKind.i64 m.Batch,AV.tree (List.map encEdge m.Edges),AV.tree (List.map encRepl m.Repls),AV.tree (List.map encGram m.Fly),AV.tree (List.map encVersion m.Issued)]) (by kernel_rfl) rfl
     (.T
     (Sat.pElem ([AV.agg [AV.int IntKind.i64 m.Size,AV.int IntKind.i64 m.Batch,AV.tree (List.map encEdge m.Edges),AV.tree (List.map encRepl m.Repls),AV.tree (List.map encGram m.Fly),AV.tree (List.map encVersion m.Issued)],AV.agg [AV.int IntKind.i64 m'.Size,AV.int IntKind.i64 m'.Batch,AV.tree (List.map encEdge m'.Edges),AV.tree (List.map encRepl m'.Repls),AV.tree (List.map encGram m'.Fly),AV.tree (List.map encVersion m'.Issued)]]) ((0 : Nat)) (AV.agg [AV.int IntKind.i64 m.Size,AV.int IntKind.i64 m.Batch,AV.tree (List.map encEdge m.Edges),AV.tree (List.map encRepl m.Repls),AV.tree (List.map encGram m.Fly),AV.tree (List.map encVersion m.Issued)]) (by kernel_rfl) rfl
     (.c (@s1) (.c (@s2) (.l (a' = a') (True) (by simp only []) (fun _h40 => (_h40 trivial).elim) (fun _h40 => .ev (a' = a') (by simp only []) _h40 (.ev (a' = a') (by simp only []) _h40 (.T
     (Sat.pElem ([AV.agg [AV.int IntKind.i64 m.Size,AV.int IntKind.i64 m.Batch,AV.tree (List.map encEdge m.Edges),AV.tree (List.map encRepl m.Repls),AV.tree (List.map encGram m.Fly),AV.tree (List.map encVersion m.Issued)],AV.agg [AV.int IntKind.i64 m'.Size,AV.int IntKind.i64 m'.Batch,AV.tree (List.map encEdge m'.Edges),AV.tree (List.map encRepl m'.Repls),AV.tree (List.map encGram m'.Fly),AV.tree (List.map encVersion m'.Issued)]]) ((0 : Nat)) (AV.agg [AV.int IntKind.i64 m.Size,AV.int IntKind.i64 m.Batch,AV.tree (List.map encEdge m.Edges),AV.tree (List.map encRepl m.Repls),AV.tree (List.map encGram m.Fly),AV.tree (List.map encVersion m.Issued)]) (by kernel_rfl) rfl
     (.ev (a' = a') (by simp only []) _h40 (.ev (a' = a') (by simp only []) _h40 (.ev (a' = a') (by simp only []) _h40 (.ev (a' = a') (by simp only []) _h40 (.T
     (Sat.pElem ([AV.agg [AV.int IntKind.i64 m.Size,AV.int IntKind.i64 m.Batch,AV.tree (List.map encEdge m.Edges),AV.tree (List.map encRepl m.Repls),AV.tree (List.map encGram m.Fly),AV.tree (List.map encVersion m.Issued)],AV.agg [AV.int IntKind.i64 m'.Size,AV.int IntKind.i64 m'.Batch,AV.tree (List.map encEdge m'.Edges),AV.tree (List.map encRepl m'.Repls),AV.tree (List.map encGram m'.Fly),AV.tree (List.map encVersion m'.Issued)]]) ((0 : Nat)) (AV.agg [AV.int IntKind.i64 m.Size,AV.int IntKind.i64 m.Batch,AV.tree (List.map encEdge m.Edges),AV.tree (List.map encRepl m.Repls),AV.tree (List.map encGram m.Fly),AV.tree (List.map encVersion m.Issued)]) (by kernel_rfl) rfl
     (.ev (a' = a') (by simp only []) _h40 (.ev (a' = a') (by simp only []) _h40 (.c (@s3) (.ev (a' = a') (by simp only []) _h40 (.c (@s4) (.ev (a' = a') (by simp only []) _h40
     (.ev (a' = a') (by simp only []) _h40 (.ev (b' = b') (by simp only []) _h40 (.ev (b' = b') (by simp only []) _h40 (.ev (b' = b') (by simp only []) _h40 (.T
     (Sat.pElem ([AV.agg [AV.int IntKind.i64 m.Size,AV.int IntKind.i64 m.Batch,AV.tree (List.map encEdge m.Edges),AV.tree (List.map encRepl m.Repls),AV.tree (List.map encGram m.Fly),AV.tree (List.map encVersion m.Issued)],AV.agg [AV.int IntKind.i64 m'.Size,AV.int IntKind.i64 m'.Batch,AV.tree (List.map encEdge m'.Edges),AV.tree (List.map encRepl m'.Repls),AV.tree (List.map encGram m'.Fly),AV.tree (List.map encVersion m'.Issued)]]) ((0 : Nat)) (AV.agg [AV.int IntKind.i64 m.Size,AV.int IntKind.i64 m.Batch,AV.tree (List.map encEdge m.Edges),AV.tree (List.map encRepl m.Repls),AV.tree (List.map encGram m.Fly),AV.tree (List.map encVersion m.Issued)]) (by kernel_rfl) rfl
     (.ev (b' = b') (by simp only []) _h40 (.ev (b' = b') (by simp only []) _h40 (.ev (b' = b') (by simp only []) _h40 (.ev (b' = b') (by simp only []) _h40 (.T
     (Sat.pElem ([AV.agg [AV.int IntKind.i64 m.Size,AV.int IntKind.i64 m.Batch,AV.tree (List.map encEdge m.Edges),AV.tree (List.map encRepl m.Repls),AV.tree (List.map encGram m.Fly),AV.tree (List.map encVersion m.Issued)],AV.agg [AV.int IntKind.i64 m'.Size,AV.int IntKind.i64 m'.Batch,AV.tree (List.map encEdge m'.Edges),AV.tree (List.map encRepl m'.Repls),AV.tree (List.map encGram m'.Fly),AV.tree (List.map encVersion m'.Issued)]]) ((0 : Nat)) (AV.agg [AV.int IntKind.i64 m.Size,AV.int IntKind.i64 m.Batch,AV.tree (List.map encEdge m.Edges),AV.tree (List.map encRepl m.Repls),AV.tree (List.map encGram m.Fly),AV.tree (List.map encVersion m.Issued)]) (by kernel_rfl) rfl
     (.ev (b' = b') (by simp only []) _h40 (.ev (b' = b') (by simp only []) _h40 (.c (@s5) (.ev (b' = b') (by simp only []) _h40 (.c (@s6) (.ev (b' = b') (by simp only []) _h40
     (.ev (b' = b') (by simp only []) _h40 (.ev (c' = c') (by simp only []) _h40 (?_)))))))))))))))))))))))))))))))))))))))))))))
    refine Sat.pUnroll 9 (St.mk [(5,.tree [encMesh m,encMesh m']),(6,.int .i64 (IntKind.i64.wrap (0 + 1)))] []) (by kernel_rfl) ?_
    refine (.T (.T
     (Sat.pElem ([AV.agg [AV.int IntKind.i64 m.Size,AV.int IntKind.i64 m.Batch,AV.tree (List.map encEdge m.Edges),AV.tree (List.map encRepl m.Repls),AV.tree (List.map encGram m.Fly),AV.tree (List.map encVersion m.Issued)],AV.agg [AV.int IntKind.i64 m'.Size,AV.int IntKind.i64 m'.Batch,AV.tree (List.map encEdge m'.Edges),AV.tree (List.map encRepl m'.Repls),AV.tree (List.map encGram m'.Fly),AV.tree (List.map encVersion m'.Issued)]]) ((1 : Nat)) (AV.agg [AV.int IntKind.i64 m'.Size,AV.int IntKind.i64 m'.Batch,AV.tree (List.map encEdge m'.Edges),AV.tree (List.map encRepl m'.Repls),AV.tree (List.map encGram m'.Fly),AV.tree (List.map encVersion m'.Issued)]) (by kernel_rfl) rfl
     (.T
     (Sat.pElem ([AV.agg [AV.int IntKind.i64 m.Size,AV.int IntKind.i64 m.Batch,AV.tree (List.map encEdge m.Edges),AV.tree (List.map encRepl m.Repls),AV.tree (List.map encGram m.Fly),AV.tree (List.map encVersion m.Issued)],AV.agg [AV.int IntKind.i64 m'.Size,AV.int IntKind.i64 m'.Batch,AV.tree (List.map encEdge m'.Edges),AV.tree (List.map encRepl m'.Repls),AV.tree (List.map encGram m'.Fly),AV.tree (List.map encVersion m'.Issued)]]) ((1 : Nat)) (AV.agg [AV.int IntKind.i64 m'.Size,AV.int IntKind.i64 m'.Batch,AV.tree (List.map encEdge m'.Edges),AV.tree (List.map encRepl m'.Repls),AV.tree (List.map encGram m'.Fly),AV.tree (List.map encVersion m'.Issued)]) (by kernel_rfl) rfl
     (.c (@r1) (.c (@r2) (.ev (a = a) (by simp only []) _h40 (.ev (a = a) (by simp only []) _h40 (.ev (a = a) (by simp only []) _h40 (.T
     (Sat.pElem ([AV.agg [AV.int IntKind.i64 m.Size,AV.int IntKind.i64 m.Batch,AV.tree (List.map encEdge m.Edges),AV.tree (List.map encRepl m.Repls),AV.tree (List.map encGram m.Fly),AV.tree (List.map encVersion m.Issued)],AV.agg [AV.int IntKind.i64 m'.Size,AV.int IntKind.i64 m'.Batch,AV.tree (List.map encEdge m'.Edges),AV.tree (List.map encRepl m'.Repls),AV.tree (List.map encGram m'.Fly),AV.tree (List.map encVersion m'.Issued)]]) ((1 : Nat)) (AV.agg [AV.int IntKind.i64 m'.Size,AV.int IntKind.i64 m'.Batch,AV.tree (List.map encEdge m'.Edges),AV.tree (List.map encRepl m'.Repls),AV.tree (List.map encGram m'.Fly),AV.tree (List.map encVersion m'.Issued)]) (by kernel_rfl) rfl
     (.ev (a = a) (by simp only []) _h40 (.ev (a = a) (by simp only []) _h40 (.ev (a = a) (by simp only []) _h40 (.ev (a = a) (by simp only []) _h40 (.T
     (Sat.pElem ([AV.agg [AV.int IntKind.i64 m.Size,AV.int IntKind.i64 m.Batch,AV.tree (List.map encEdge m.Edges),AV.tree (List.map encRepl m.Repls),AV.tree (List.map encGram m.Fly),AV.tree (List.map encVersion m.Issued)],AV.agg [AV.int IntKind.i64 m'.Size,AV.int IntKind.i64 m'.Batch,AV.tree (List.map encEdge m'.Edges),AV.tree (List.map encRepl m'.Repls),AV.tree (List.map encGram m'.Fly),AV.tree (List.map encVersion m'.Issued)]]) ((1 : Nat)) (AV.agg [AV.int IntKind.i64 m'.Size,AV.int IntKind.i64 m'.Batch,AV.tree (List.map encEdge m'.Edges),AV.tree (List.map encRepl m'.Repls),AV.tree (List.map encGram m'.Fly),AV.tree (List.map encVersion m'.Issued)]) (by kernel_rfl) rfl
     (.ev (a = a) (by simp only []) _h40 (.ev (a = a) (by simp only []) _h40 (.c (@r3) (.ev (a = a) (by simp only []) _h40 (.c (@r4) (.ev (a = a) (by simp only []) _h40 (.ev (a = a) (by simp only []) _h40
     (.ev (b = b) (by simp only []) _h40 (.ev (b = b) (by simp only []) _h40 (.ev (b = b) (by simp only []) _h40 (.T
     (Sat.pElem ([AV.agg [AV.int IntKind.i64 m.Size,AV.int IntKind.i64 m.Batch,AV.tree (List.map encEdge m.Edges),AV.tree (List.map encRepl m.Repls),AV.tree (List.map encGram m.Fly),AV.tree (List.map encVersion m.Issued)],AV.agg [AV.int IntKind.i64 m'.Size,AV.int IntKind.i64 m'.Batch,AV.tree (List.map encEdge m'.Edges),AV.tree (List.map encRepl m'.Repls),AV.tree (List.map encGram m'.Fly),AV.tree (List.map encVersion m'.Issued)]]) ((1 : Nat)) (AV.agg [AV.int IntKind.i64 m'.Size,AV.int IntKind.i64 m'.Batch,AV.tree (List.map encEdge m'.Edges),AV.tree (List.map encRepl m'.Repls),AV.tree (List.map encGram m'.Fly),AV.tree (List.map encVersion m'.Issued)]) (by kernel_rfl) rfl
     (.ev (b = b) (by simp only []) _h40 (.ev (b = b) (by simp only []) _h40 (.ev (b = b) (by simp only []) _h40 (.ev (b = b) (by simp only []) _h40 (.T
     (Sat.pElem ([AV.agg [AV.int IntKind.i64 m.Size,AV.int IntKind.i64 m.Batch,AV.tree (List.map encEdge m.Edges),AV.tree (List.map encRepl m.Repls),AV.tree (List.map encGram m.Fly),AV.tree (List.map encVersion m.Issued)],AV.agg [AV.int IntKind.i64 m'.Size,AV.int IntKind.i64 m'.Batch,AV.tree (List.map encEdge m'.Edges),AV.tree (List.map encRepl m'.Repls),AV.tree (List.map encGram m'.Fly),AV.tree (List.map encVersion m'.Issued)]]) ((1 : Nat)) (AV.agg [AV.int IntKind.i64 m'.Size,AV.int IntKind.i64 m'.Batch,AV.tree (List.map encEdge m'.Edges),AV.tree (List.map encRepl m'.Repls),AV.tree (List.map encGram m'.Fly),AV.tree (List.map encVersion m'.Issued)]) (by kernel_rfl) rfl
     (.ev (b = b) (by simp only []) _h40 (.ev (b = b) (by simp only []) _h40 (.c (@r5) (.ev (b = b) (by simp only []) _h40 (.c (@r6) (.ev (b = b) (by simp only []) _h40 (.ev (b = b) (by simp only []) _h40
     (.ev (c = c) (by simp only []) _h40 (?_)))))))))))))))))))))))))))))))))))))))))))))
    refine Sat.pUnroll 9 (St.mk [(5,.tree [encMesh m,encMesh m']),(6,.int .i64 (IntKind.i64.wrap (IntKind.i64.wrap (0 + 1) + 1)))] []) (by kernel_rfl) ?_
    refine (.F .r)
  · refine spec_of ok Go.Proofs.Tryz.func3 ok3 ?_
    refine (.c (@Tryz.c9) (.F (.k (250 < (↑(List.map encB l).length : Int)) (250 < l.length) (by simp only [List.length_map,ciLt]) (fun _h3 => .r) (fun _h3 => False.elim (by omega)))))
theorem law_RankAll (x0 : List UInt8) (_h0 : (∀ x ∈ x0,True) ∧ x0.length ≤ maxLen) : X.call 3 [.tree (x0.map encB)] [] ⟨.bool true,[],[]⟩ := c3 x0
end Go.Ab.Tryz
