/- Package cardamomref25: steps that write; Tell; Round. -/
import Derived.Test.YtmppanboolejjaaGreatRef25e
import Derived.Test.YtmppanboolejjaaGreatRef25a
namespace Go.Ab.Tryz
open Go
set_option maxRecDepth 100000
set_option maxHeartbeats 4000000
theorem do_write (m : Mesh) (s : Step) (size k : Nat) (B : Int) (h : m.Ok size B k) (hB : 1000000 ≤ B) (hB2 : B ≤ 1000000000) (hk : k ≤ 9000) (ha : s.Attrs.length ≤ 1000) (ht : s.Tag.length ≤ 1000) (hb : s.Text.length ≤ 1000) (hkind : 1 ≤ s.Kind ∧ s.Kind ≤ 3) : ∃ p : Mesh × Int,X.call 23 [encMesh m,encStep s] [] ⟨.tuple [encMesh p.1,.int .i64 p.2],[],[]⟩ ∧ p.1.Ok size (B + 1) (k + 1) := by
  have hsz := h.sz
  have hs5 := h.s5
  have hrl := h.rl
  have hil := h.il
  have h0 := h.mono (B' := B + 1) (k' := k + 1) (by omega) (by omega)
  by_cases hr : 1 ≤ s.R ∧ s.R ≤ size
  · have hw := h.write parse_Short hr.1 hr.2
    have hsm : ∀ r ∈ m.Repls,r.Sm := fun r hr => (h.mem hr).sm (by omega)
    have hid : ∀ r ∈ m.Repls,r.ID ≤ m.Repls.length := fun r hr => by have := (h.mem hr).i1; omega
    have cW := c47 m s hr.1 (by omega) (by omega) (by omega) hsm hid ha ht hb
    refine ⟨((m.write parse s).1,(m.write parse s).2), ?_,hw⟩
    generalize m.write parse s = w at *
    clear hw hsm hid h0 h
    refine spec_of ok Go.Proofs.Tryz.func23 ok23 ?_
    refine (.i (s.Kind = 1) (fun _h26 => .it _h26 (.i (s.R < 1) (fun _h27 => False.elim (by omega)) (fun _h27 => .iF _h27 (.iF _h27 (.iF _h27 (.iF _h27 (.iF _h27 (.i (m.Size < s.R)
     (fun _h28 => False.elim (by omega)) (fun _h28 => .c (@cW) .r))))))))) (fun _h26 => .i (s.Kind = 2) (fun _h29 => .it _h29 (.i (s.R < 1) (fun _h30 => False.elim (by omega)) (fun _h30 => .iF _h30
     (.iF _h30 (.iF _h30 (.iF _h30 (.iF _h30 (.i (m.Size < s.R) (fun _h31 => False.elim (by omega)) (fun _h31 => .c (@cW) .r))))))))) (fun _h29 => .i (s.Kind = 3) (fun _h32 => .i (s.R < 1)
     (fun _h33 => False.elim (by omega)) (fun _h33 => .iF _h33 (.iF _h33 (.iF _h33 (.iF _h33 (.iF _h33 (.i (m.Size < s.R) (fun _h34 => False.elim (by omega)) (fun _h34 => .c (@cW) .r))))))))
     (fun _h32 => False.elim (by omega)))))
  · refine ⟨(m,1), ?_,h0⟩
    clear h0 h
    refine spec_of ok Go.Proofs.Tryz.func23 ok23 ?_
    refine (.i (s.Kind = 1) (fun _h20 => .it _h20 (.i (s.R < 1) (fun _h21 => .it _h21 (.it _h21 (.it _h21 (.it _h21 (.it _h21 (.T .r)))))) (fun _h21 => .iF _h21 (.iF _h21 (.iF _h21 (.iF _h21 (.iF _h21
     (.i (m.Size < s.R) (fun _h22 => .r) (fun _h22 => False.elim (by omega)))))))))) (fun _h20 => .i (s.Kind = 2) (fun _h23 => .it _h23 (.i (s.R < 1) (fun _h24 => .it _h24 (.it _h24 (.it _h24 (.it _h24
     (.it _h24 (.T .r)))))) (fun _h24 => .iF _h24 (.iF _h24 (.iF _h24 (.iF _h24 (.iF _h24 (.i (m.Size < s.R) (fun _h25 => .r) (fun _h25 => False.elim (by omega)))))))))) (fun _h23 => .i (s.Kind = 3)
     (fun _h26 => .i (s.R < 1) (fun _h27 => .it _h27 (.it _h27 (.it _h27 (.it _h27 (.it _h27 (.T .r)))))) (fun _h27 => .iF _h27 (.iF _h27 (.iF _h27 (.iF _h27 (.iF _h27 (.i (m.Size < s.R) (fun _h28 => .r)
     (fun _h28 => False.elim (by omega))))))))) (fun _h26 => False.elim (by omega)))))
theorem do_ex (m : Mesh) (s : Step) (size k : Nat) (B : Int) (h : m.Ok size B k) (hB : 1000000 ≤ B) (hB2 : B ≤ 1000000000) (hk : k ≤ 9000) (ha : s.Attrs.length ≤ 1000) (ht : s.Tag.length ≤ 1000) (hb : s.Text.length ≤ 1000) (hto : s.To < 1000000) (h1 : 1 ≤ s.Kind) : ∃ p : Mesh × Int,X.call 23 [encMesh m,encStep s] [] ⟨.tuple [encMesh p.1,.int .i64 p.2],[],[]⟩ ∧ p.1.Ok size (B + 1) (k + 1) := by
  rcases (by omega : s.Kind ≤ 3 ∨ s.Kind = 4 ∨ s.Kind = 5 ∨ 6 ≤ s.Kind) with h2 | h2 | h2 | h2
  · exact do_write m s size k B h hB hB2 hk ha ht hb ⟨h1,h2⟩
  · exact do_tell m s size k B h hB hB2 hk h2
  · exact do_comes m s size k B h hB hB2 hk h2
  · exact do_lost m s size k B h hB hB2 hk hto h2
theorem tell_ex (m : Mesh) (a b : Int) (size k : Nat) (B : Int) (h : m.Ok size B k) (hB : 1000000 ≤ B) (hB2 : B ≤ 1000000000) (h1 : 1 ≤ a) (h2 : a ≤ size) (h3 : 1 ≤ b) (h4 : b ≤ size) : ∃ m' : Mesh,X.call 24 [encMesh m,.int .i64 a,.int .i64 b] [] ⟨encMesh m',[],[]⟩ ∧ m'.Ok size (B + 1) k ∧ m'.Edges = m.Edges := by
  have hsz := h.sz
  have hs5 := h.s5
  have hrl := h.rl
  have h0 := h.mono (B' := B + 1) (k' := k) (by omega) (by omega)
  have hla : (a - 1).toNat < m.Repls.length := by omega
  have hlb : (b - 1).toNat < m.Repls.length := by omega
  obtain ⟨r,hr⟩ : ∃ r,m.Repls[(a - 1).toNat]? = some r := ⟨m.Repls[(a - 1).toNat],by simp⟩
  obtain ⟨q,hq⟩ : ∃ q,m.Repls[(b - 1).toNat]? = some q := ⟨m.Repls[(b - 1).toNat],by simp⟩
  have ho := (h.rs _ _ hr).1
  have hp := (h.rs _ _ hq).1
  obtain ⟨q1,q2,q3,q4,q5,q6,q7,q8,q9,q10,q11,q12,q13,q14,q15,q16,q17,q18⟩ := ho.sm (by omega)
  obtain ⟨r1,r2,r3,r4,r5,r6,r7,r8,r9,r10,r11,r12,r13,r14,r15,r16,r17,r18⟩ := hp.sm (by omega)
  obtain ⟨⟨g,ok1⟩,cTo,t1,t2,t3,t4,t5⟩ := c28 r b m.Batch q3 q17 q10 (by omega) q18
  simp only at cTo t1 t2 t3 t4 t5
  cases ok1 with
  | false =>
    refine ⟨m, ?_,h0,rfl⟩
    clear h0 h ho hp t1 t2 t3 t4 t5 q1 q2 q3 q4 q5 q6 q7 q8 q9 q10 q11 q12 q13 q14 q15 q16 q17 q18 r1 r2 r3 r4 r5 r6 r7 r8 r9 r10 r11 r12 r13 r14 r15 r16 r17 r18
    refine spec_of ok Go.Proofs.Tryz.func24 ok24 ?_
    refine (have _w71 := wI64' (a - (1 : Int)); .k (0 ≤ IntKind.i64.wrap (a - 1)) (0 ≤ a - 1) (by simp only [_w71])
     (fun _h72 => .eH encRepl m.Repls ((IntKind.i64.wrap (a - 1)).toNat) (by simp only [_w71]) hr (.b (.c (@cTo) (.T .r)) (.c (@cTo) (.T .r)))) (fun _h72 => False.elim (by omega)))
  | true =>
    have cF := c53 q g r1 r2 r3 r4 r5 r6 r7 r9 r11 r12 (by omega) (by omega) (fun v hv => by have := q9 v (t2 v hv); have := q10 v (t2 v hv); omega) (fun v hv => by have := q7 v (t4 v hv); have := q8 v (t4 v hv); omega)
    have hot := hp.take parse_Short (g := g) hB
    have cW := c54 m (q.take parse g).1 (by rw [take_id]; omega) (by rw [take_id]; have := hp.i1; omega) (by omega)
    have hri := h.ri _ (List.mem_of_getElem? hr)
    have hw := h0.with_ hot ((h.ri _ (List.mem_of_getElem? hq)).take hp ⟨fun w hw => hri.seen w (t2 w hw),fun v hv => hri.held v (t4 v hv)⟩)
    clear hri
    by_cases he : (q.take parse g).2 = 0
    · refine ⟨m.with_ (q.take parse g).1, ?_,hw,rfl⟩
      generalize q.take parse g = rt at *
      clear hw hot h0 h ho hp t1 t2 t3 t4 t5 q1 q2 q3 q4 q5 q6 q7 q8 q9 q10 q11 q12 q13 q14 q15 q16 q17 q18 r1 r2 r3 r4 r5 r6 r7 r8 r9 r10 r11 r12 r13 r14 r15 r16 r17 r18
      refine spec_of ok Go.Proofs.Tryz.func24 ok24 ?_
      refine (have _w78 := wI64' (a - (1 : Int)); .k (0 ≤ IntKind.i64.wrap (a - 1)) (0 ≤ a - 1) (by simp only [_w78])
       (fun _h79 => .eH encRepl m.Repls ((IntKind.i64.wrap (a - 1)).toNat) (by simp only [_w78]) hr (.b (.c (@cTo) (.F
       (have _w80 := wI64' (b - (1 : Int)); .k (0 ≤ IntKind.i64.wrap (b - 1)) (0 ≤ b - 1) (by simp only [_w80]) (fun _h81 => .eH encRepl m.Repls ((IntKind.i64.wrap (b - 1)).toNat) (by simp only [_w80]) hq (.b
       (.c (@cF) (.iv he (.c (@cW) .r))) (.c (@cF) (.iv he (.c (@cW) .r))))) (fun _h81 => False.elim (by omega))))) (.c (@cTo) (.F
       (have _w82 := wI64' (b - (1 : Int)); .k (0 ≤ IntKind.i64.wrap (b - 1)) (0 ≤ b - 1) (by simp only [_w82]) (fun _h83 => .eH encRepl m.Repls ((IntKind.i64.wrap (b - 1)).toNat) (by simp only [_w82]) hq (.b
       (.c (@cF) (.iv he (.c (@cW) .r))) (.c (@cF) (.iv he (.c (@cW) .r))))) (fun _h83 => False.elim (by omega))))))) (fun _h79 => False.elim (by omega)))
    · refine ⟨m, ?_,h0,rfl⟩
      generalize q.take parse g = rt at *
      clear hw hot h0 h ho hp t1 t2 t3 t4 t5 q1 q2 q3 q4 q5 q6 q7 q8 q9 q10 q11 q12 q13 q14 q15 q16 q17 q18 r1 r2 r3 r4 r5 r6 r7 r8 r9 r10 r11 r12 r13 r14 r15 r16 r17 r18
      refine spec_of ok Go.Proofs.Tryz.func24 ok24 ?_
      refine (have _w78 := wI64' (a - (1 : Int)); .k (0 ≤ IntKind.i64.wrap (a - 1)) (0 ≤ a - 1) (by simp only [_w78])
       (fun _h79 => .eH encRepl m.Repls ((IntKind.i64.wrap (a - 1)).toNat) (by simp only [_w78]) hr (.b (.c (@cTo) (.F
       (have _w80 := wI64' (b - (1 : Int)); .k (0 ≤ IntKind.i64.wrap (b - 1)) (0 ≤ b - 1) (by simp only [_w80]) (fun _h81 => .eH encRepl m.Repls ((IntKind.i64.wrap (b - 1)).toNat) (by simp only [_w80]) hq (.b
       (.c (@cF) (.iu he .r)) (.c (@cF) (.iu he .r)))) (fun _h81 => False.elim (by omega))))) (.c (@cTo) (.F
       (have _w82 := wI64' (b - (1 : Int)); .k (0 ≤ IntKind.i64.wrap (b - 1)) (0 ≤ b - 1) (by simp only [_w82]) (fun _h83 => .eH encRepl m.Repls ((IntKind.i64.wrap (b - 1)).toNat) (by simp only [_w82]) hq (.b
       (.c (@cF) (.iu he .r)) (.c (@cF) (.iu he .r)))) (fun _h83 => False.elim (by omega))))))) (fun _h79 => False.elim (by omega)))
end Go.Ab.Tryz
