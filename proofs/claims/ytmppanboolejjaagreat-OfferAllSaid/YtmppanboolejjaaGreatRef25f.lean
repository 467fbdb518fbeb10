/- Package cardamomref25: steps that write; Tell; Round. -/
import Derived.Test.YtmppanboolejjaaGreatRef25e
import Derived.Test.YtmppanboolejjaaGreatRef25a
namespace Go.Ab.Tryz
open Go
set_option maxRecDepth 100000
set_option maxHeartbeats 4000000
theorem do_write (m : Mesh) (s : Step) (size k : Nat) (B : Int) (h : m.Ok size B k) (hB2 : B ≤ 1000000000) (hk : k ≤ 9000) (ha : s.Attrs.length ≤ 1000) (ht : s.Tag.length ≤ 1000) (hb : s.Text.length ≤ 1000) (hkind : 1 ≤ s.Kind ∧ s.Kind ≤ 3) (hft : s.Kind = 3 → s.Text ∈ goodF) : ∃ p : Mesh × Int,X.call 23 [encMesh m,encStep s] [] ⟨.tuple [encMesh p.1,.int .i64 p.2],[],[]⟩ ∧ p.1.Ok size (B + 1) (k + 1) := by
  have hsz := h.sz
  have hs5 := h.s5
  have hrl := h.rl
  have hil := h.il
  have h0 := h.mono (B' := B + 1) (k' := k + 1) (by omega) (by omega)
  by_cases hr : 1 ≤ s.R ∧ s.R ≤ size
  · have hw := h.write parse_Short hr.1 hr.2 hft
    have hsm : ∀ r ∈ m.Repls,r.Sm := fun r hr => (h.mem hr).sm (by omega)
    have hid : ∀ r ∈ m.Repls,r.ID ≤ m.Repls.length := fun r hr => by have := (h.mem hr).i1; omega
    have cW := c47 m s hr.1 (by omega) (by omega) (by omega) hsm hid ha ht hb
    refine ⟨((m.write parse s).1,(m.write parse s).2), ?_,hw⟩
    generalize m.write parse s = w at *
    clear hw hsm hid h0 h hft
    refine spec_of ok Go.Proofs.Tryz.func23 ok23 ?_
    refine (.i (s.Kind = 1) (fun _h26 => .it _h26 (.i (s.R < 1) (fun _h27 => False.elim (by omega)) (fun _h27 => .iF _h27 (.iF _h27 (.iF _h27 (.iF _h27 (.iF _h27 (.i (m.Size < s.R)
     (fun _h28 => False.elim (by omega)) (fun _h28 => .c (@cW) .r))))))))) (fun _h26 => .i (s.Kind = 2) (fun _h29 => .it _h29 (.i (s.R < 1) (fun _h30 => False.elim (by omega)) (fun _h30 => .iF _h30
     (.iF _h30 (.iF _h30 (.iF _h30 (.iF _h30 (.i (m.Size < s.R) (fun _h31 => False.elim (by omega)) (fun _h31 => .c (@cW) .r))))))))) (fun _h29 => .i (s.Kind = 3) (fun _h32 => .i (s.R < 1)
     (fun _h33 => False.elim (by omega)) (fun _h33 => .iF _h33 (.iF _h33 (.iF _h33 (.iF _h33 (.iF _h33 (.i (m.Size < s.R) (fun _h34 => False.elim (by omega)) (fun _h34 => .c (@cW) .r))))))))
     (fun _h32 => False.elim (by omega)))))
  · refine ⟨(m,1), ?_,h0⟩
    clear h0 h hft
    refine spec_of ok Go.Proofs.Tryz.func23 ok23 ?_
    refine (.i (s.Kind = 1) (fun _h20 => .it _h20 (.i (s.R < 1) (fun _h21 => .it _h21 (.it _h21 (.it _h21 (.it _h21 (.it _h21 (.T .r)))))) (fun _h21 => .iF _h21 (.iF _h21 (.iF _h21 (.iF _h21 (.iF _h21
     (.i (m.Size < s.R) (fun _h22 => .r) (fun _h22 => False.elim (by omega)))))))))) (fun _h20 => .i (s.Kind = 2) (fun _h23 => .it _h23 (.i (s.R < 1) (fun _h24 => .it _h24 (.it _h24 (.it _h24 (.it _h24
     (.it _h24 (.T .r)))))) (fun _h24 => .iF _h24 (.iF _h24 (.iF _h24 (.iF _h24 (.iF _h24 (.i (m.Size < s.R) (fun _h25 => .r) (fun _h25 => False.elim (by omega)))))))))) (fun _h23 => .i (s.Kind = 3)
     (fun _h26 => .i (s.R < 1) (fun _h27 => .it _h27 (.it _h27 (.it _h27 (.it _h27 (.it _h27 (.T .r)))))) (fun _h27 => .iF _h27 (.iF _h27 (.iF _h27 (.iF _h27 (.iF _h27 (.i (m.Size < s.R) (fun _h28 => .r)
     (fun _h28 => False.elim (by omega))))))))) (fun _h26 => False.elim (by omega)))))
theorem do_ex (m : Mesh) (s : Step) (size k : Nat) (B : Int) (h : m.Ok size B k) (hB2 : B ≤ 1000000000) (hk : k ≤ 9000) (ha : s.Attrs.length ≤ 1000) (ht : s.Tag.length ≤ 1000) (hb : s.Text.length ≤ 1000) (hto : s.To < 1000000) (h1 : 1 ≤ s.Kind) (hft : s.Kind = 3 → s.Text ∈ goodF) : ∃ p : Mesh × Int,X.call 23 [encMesh m,encStep s] [] ⟨.tuple [encMesh p.1,.int .i64 p.2],[],[]⟩ ∧ p.1.Ok size (B + 1) (k + 1) := by
  rcases (by omega : s.Kind ≤ 3 ∨ s.Kind = 4 ∨ s.Kind = 5 ∨ 6 ≤ s.Kind) with h2 | h2 | h2 | h2
  · exact do_write m s size k B h hB2 hk ha ht hb ⟨h1,h2⟩ hft
  · exact do_tell m s size k B h hB2 hk h2
  · exact do_comes m s size k B h hB2 hk h2
  · exact do_lost m s size k B h hB2 hk hto h2
end Go.Ab.Tryz
