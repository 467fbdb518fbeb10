/- Package cardamomref25: what one tells another, of meshes that may be. -/
import Derived.Test.YtmppanboolejjaaGreatRef25d
import Derived.Test.YtmppanboolejjaaGreatRef11f
import Derived.Test.YtmppanboolejjaaGreatRef11e
import Derived.Test.YtmppanboolejjaaGreatRef16e
import Derived.Test.YtmppanboolejjaaGreatRef20
import Derived.Test.YtmppanboolejjaaGreatG3
namespace Go.Ab.Tryz
open Go
set_option maxRecDepth 100000
set_option maxHeartbeats 4000000
theorem beside_in {l : List Edge} {a b : Int} {size : Nat} (he : ∀ e ∈ l,1 ≤ e.A ∧ e.A < e.B ∧ e.B ≤ size) (h : (l.any fun e => decide (e = ⟨a,b⟩) || decide (e = ⟨b,a⟩)) = true) : 1 ≤ a ∧ a ≤ size ∧ 1 ≤ b ∧ b ≤ size := by
  obtain ⟨e,hm,hc⟩ := List.any_eq_true.1 h
  have := he e hm
  simp only [Bool.or_eq_true,decide_eq_true_eq] at hc
  rcases hc with rfl | rfl <;> simp only at this <;> omega
theorem do_tell (m : Mesh) (s : Step) (size k : Nat) (B : Int) (h : m.Ok size B k) (hB2 : B ≤ 1000000000) (hk : k ≤ 9000) (hkind : s.Kind = 4) : ∃ p : Mesh × Int,X.call 23 [encMesh m,encStep s] [] ⟨.tuple [encMesh p.1,.int .i64 p.2],[],[]⟩ ∧ p.1.Ok size (B + 1) (k + 1) := by
  have hsz := h.sz
  have hs5 := h.s5
  have hfl := h.fl
  have hel := h.el
  have h0 := h.mono (B' := B + 1) (k' := k + 1) (by omega) (by omega)
  by_cases hbe : (m.Edges.any fun e => decide (e = ⟨s.R,s.To⟩) || decide (e = ⟨s.To,s.R⟩)) = true
  · obtain ⟨h1,h2,h3,h4⟩ := beside_in h.ed hbe
    have hlt : (s.R - 1).toNat < m.Repls.length := by have := h.rl; omega
    obtain ⟨r,hr⟩ : ∃ r,m.Repls[(s.R - 1).toNat]? = some r := ⟨m.Repls[(s.R - 1).toNat],by simp⟩
    have hrl := h.rl
    have ho := (h.rs _ _ hr).1
    have sm := ho.sm (by omega)
    obtain ⟨q1,q2,q3,q4,q5,q6,q7,q8,q9,q10,q11,q12,q13,q14,q15,q16,q17,q18⟩ := sm
    obtain ⟨⟨g,ok1⟩,cTo,t1,t2,t3,t4,t5⟩ := c28 r s.To m.Batch q3 q17 q10 (by omega) q18
    simp only at cTo t1 t2 t3 t4 t5
    obtain ⟨⟨b,ok2⟩,cPut,p1,p2,p3,p4⟩ := c49 g m.Size (by omega) (by omega) (by omega) (by omega) (fun v hv => by have := q9 v (t2 v hv); have := q10 v (t2 v hv); omega) (fun v hv => by have := q7 v (t4 v hv); have := q8 v (t4 v hv); omega)
    simp only at cPut p1 p2 p3 p4
    have hri := h.ri _ (List.mem_of_getElem? hr)
    have hin : Gram.In size (B + 1) m.Issued ⟨s.R,s.To,b,false⟩ := by
      cases ok2 with
      | false => exact .inl (p4 rfl)
      | true => exact .inr ⟨g,by have := p2 rfl; rw [hsz] at this; exact Gossip.may_puts this,⟨fun w hw => hri.seen w (t2 w hw),fun v hv => hri.held v (t4 v hv),fun w hw => hri.fil w (t2 w hw),fun w hw => (ho.vs w (t2 w hw)).mono (by omega)⟩,.inl ⟨rfl,p3 rfl⟩⟩
    have f1 := h0.fly (l := netSend m.Fly ⟨s.R,s.To,b,false⟩) (send_ok hfl h.fb (by simp only; omega)).1 (send_ok hfl h.fb (by simp only; omega)).2 (send_in h0.fi hin)
    clear hin hri p2 p3 p4
    clear t1 t2 t3 t4 t5 q1 q2 q3 q4 q5 q6 q7 q8 q9 q10 q11 q12 q13 q14 q15 q16 q17 q18 ho
    by_cases hfull : m.Fly.length < 20
    · refine ⟨({ m with Fly := netSend m.Fly ⟨s.R,s.To,b,false⟩ },0), ?_,f1⟩
      clear f1 h0 h
      refine spec_of ok Go.Proofs.Tryz.func23 ok23 ?_
      refine (.i (s.Kind = 1) (fun _h62 => False.elim (by omega)) (fun _h62 => .i (s.Kind = 2) (fun _h63 => False.elim (by omega)) (fun _h63 => .i (s.Kind = 3) (fun _h64 => False.elim (by omega))
       (fun _h64 => .it hkind (.c (@Tryz.c48 (m.Edges) (s.R) (s.To) (by omega))
       (Sat.pNodeF (!m.Edges.any fun (e : Edge) => decide (e = Edge.mk s.R s.To) || decide (e = Edge.mk s.To s.R)) (by kernel_rfl) (by rw [hbe]; rfl)
       (have _w65 := wI64' (s.R - (1 : Int)); .k (0 ≤ IntKind.i64.wrap (s.R - 1)) (0 ≤ s.R - 1) (by simp only [_w65])
       (fun _h66 => .eH encRepl m.Repls ((IntKind.i64.wrap (s.R - 1)).toNat) (by simp only [_w65]) hr (.b (.c (@cTo) (.c (@cPut) (.z encB b 1 (fun _ => rfl) (.B (List.map encB b) b rfl
       (.c (@Tryz.c50 (m.Fly) (Gram.mk s.R s.To b Bool.false) ‹_›) (.iv hfull .r)))))) (.c (@cTo) (.c (@cPut) (.z encB b 1 (fun _ => rfl) (.B (List.map encB b) b rfl
       (.c (@Tryz.c50 (m.Fly) (Gram.mk s.R s.To b Bool.false) ‹_›) (.iv hfull .r)))))))) (fun _h66 => False.elim (by omega)))))))))
    · refine ⟨(m,6), ?_,h0⟩
      clear f1 h0 h
      refine spec_of ok Go.Proofs.Tryz.func23 ok23 ?_
      refine (.i (s.Kind = 1) (fun _h62 => False.elim (by omega)) (fun _h62 => .i (s.Kind = 2) (fun _h63 => False.elim (by omega)) (fun _h63 => .i (s.Kind = 3) (fun _h64 => False.elim (by omega))
       (fun _h64 => .it hkind (.c (@Tryz.c48 (m.Edges) (s.R) (s.To) (by omega))
       (Sat.pNodeF (!m.Edges.any fun (e : Edge) => decide (e = Edge.mk s.R s.To) || decide (e = Edge.mk s.To s.R)) (by kernel_rfl) (by rw [hbe]; rfl)
       (have _w65 := wI64' (s.R - (1 : Int)); .k (0 ≤ IntKind.i64.wrap (s.R - 1)) (0 ≤ s.R - 1) (by simp only [_w65])
       (fun _h66 => .eH encRepl m.Repls ((IntKind.i64.wrap (s.R - 1)).toNat) (by simp only [_w65]) hr (.b (.c (@cTo) (.c (@cPut) (.z encB b 1 (fun _ => rfl) (.B (List.map encB b) b rfl
       (.c (@Tryz.c50 (m.Fly) (Gram.mk s.R s.To b Bool.false) ‹_›) (.iu hfull .r)))))) (.c (@cTo) (.c (@cPut) (.z encB b 1 (fun _ => rfl) (.B (List.map encB b) b rfl
       (.c (@Tryz.c50 (m.Fly) (Gram.mk s.R s.To b Bool.false) ‹_›) (.iu hfull .r)))))))) (fun _h66 => False.elim (by omega)))))))))
  · refine ⟨(m,1), ?_,h0⟩
    refine spec_of ok Go.Proofs.Tryz.func23 ok23 ?_
    refine (.i (s.Kind = 1) (fun _h16 => False.elim (by omega)) (fun _h16 => .i (s.Kind = 2) (fun _h17 => False.elim (by omega)) (fun _h17 => .i (s.Kind = 3) (fun _h18 => False.elim (by omega))
     (fun _h18 => .it hkind (.c (@Tryz.c48 (m.Edges) (s.R) (s.To) (by omega)) (.m (m.Edges.any fun (e : Edge) => decide (e = Edge.mk s.R s.To) || decide (e = Edge.mk s.To s.R)) (fun _h19 => .r)
     (fun _h19 => False.elim (by (contradiction)))))))))
end Go.Ab.Tryz
