/- Package cardamomref25: what comes, of meshes that may be. -/
import Derived.Test.YtmppanboolejjaaGreatRef25t
import Derived.Test.YtmppanboolejjaaGreatRef11f
import Derived.Test.YtmppanboolejjaaGreatRef11e
import Derived.Test.YtmppanboolejjaaGreatRef16e
import Derived.Test.YtmppanboolejjaaGreatRef20
import Derived.Test.YtmppanboolejjaaGreatG3
namespace Go.Ab.Tryz
open Go
set_option maxRecDepth 100000
set_option maxHeartbeats 4000000
theorem do_comes (m : Mesh) (s : Step) (size k : Nat) (B : Int) (h : m.Ok size B k) (hB2 : B ≤ 1000000000) (hk : k ≤ 9000) (hkind : s.Kind = 5) : ∃ p : Mesh × Int,X.call 23 [encMesh m,encStep s] [] ⟨.tuple [encMesh p.1,.int .i64 p.2],[],[]⟩ ∧ p.1.Ok size (B + 1) (k + 1) := by
  have hsz := h.sz
  have hs5 := h.s5
  have hfl := h.fl
  have hrl := h.rl
  have h0 := h.mono (B' := B + 1) (k' := k + 1) (by omega) (by omega)
  have hc := comes_sub m.Fly s.I
  have f1 := h0.fly (l := (netComes m.Fly s.I).1) (by have := hc.length_le; omega) (fun g hg => h.fb g (hc.subset hg)) (fun g hg => h0.fi g (hc.subset hg))
  have hg : (netComes m.Fly s.I).2.2 = true → (netComes m.Fly s.I).2.1.B.length ≤ 5000 := by
    unfold netComes
    split
    · rename_i hi
      intro _
      have hlt : s.I.toNat < m.Fly.length := by omega
      have := h.fb _ (List.getElem_mem hlt)
      simp only [List.getD,List.getElem?_eq_getElem hlt,Option.getD_some]
      exact this
    · intro hh; cases hh
  have hgi : (netComes m.Fly s.I).2.2 = true → (netComes m.Fly s.I).2.1.In size B m.Issued := by
    unfold netComes
    split
    · rename_i hi
      intro _
      have hlt : s.I.toNat < m.Fly.length := by omega
      have := h.fi _ (List.getElem_mem hlt)
      simp only [List.getD,List.getElem?_eq_getElem hlt,Option.getD_some]
      exact this
    · intro hh; cases hh
  have cN := c51 m.Fly s.I hfl
  generalize netComes m.Fly s.I = nc at *
  obtain ⟨l,gram,ok1⟩ := nc
  simp only at hc f1 hg hgi cN
  cases ok1 with
  | false =>
    refine ⟨(m,3), ?_,h0⟩
    clear hgi f1 h0 h hc
    refine spec_of ok Go.Proofs.Tryz.func23 ok23 ?_
    refine (.i (s.Kind = 1) (fun _h23 => False.elim (by omega)) (fun _h23 => .i (s.Kind = 2) (fun _h24 => False.elim (by omega)) (fun _h24 => .i (s.Kind = 3) (fun _h25 => False.elim (by omega))
     (fun _h25 => .i (s.Kind = 4) (fun _h26 => False.elim (by omega)) (fun _h26 => .it hkind (.c (@cN) (.T .r)))))))
  | true =>
    have hgl := hg rfl
    obtain ⟨⟨g,ok2⟩,cT,t1,t2⟩ := c52 gram.B size hs5 hgl
    simp only at cT t1 t2
    rw [← hsz] at cT
    cases ok2 with
    | false =>
      refine ⟨({ m with Fly := l },2), ?_,f1⟩
      clear hgi t2 f1 h0 h hc t1
      refine spec_of ok Go.Proofs.Tryz.func23 ok23 ?_
      refine (.i (s.Kind = 1) (fun _h26 => False.elim (by omega)) (fun _h26 => .i (s.Kind = 2) (fun _h27 => False.elim (by omega)) (fun _h27 => .i (s.Kind = 3) (fun _h28 => False.elim (by omega))
       (fun _h28 => .i (s.Kind = 4) (fun _h29 => False.elim (by omega)) (fun _h29 => .it hkind (.c (@cN) (.F
       (have _w30 : List.take gram.B.length (List.map (fun (c : UInt8) => AV.int IntKind.u8 (↑c.toNat : Int)) gram.B) = List.map (fun (c : UInt8) => AV.int IntKind.u8 (↑c.toNat : Int)) gram.B := List.take_of_length_le (by simp); .C ([.tree (List.take gram.B.length (List.map (fun (c : UInt8) => AV.int .u8 (↑c.toNat : Int)) gram.B)),.int .i64 m.Size]) ([]) (by simp [encB_fun,_w30]) rfl (@cT)
       (.T .r)))))))))
    | true =>
      have hgm := t1 rfl
      have gf := Gossip.may_fit hgm
      have hgo := (hgi rfl).told (Gossip.may_puts hgm) (t2 rfl)
      have g1 := gf.t0
      have g2 := gf.t1
      have hlt : (g.To - 1).toNat < m.Repls.length := by omega
      obtain ⟨r,hr⟩ : ∃ r,m.Repls[(g.To - 1).toNat]? = some r := ⟨m.Repls[(g.To - 1).toNat],by simp⟩
      have ho := (h.rs _ _ hr).1
      obtain ⟨q1,q2,q3,q4,q5,q6,q7,q8,q9,q10,q11,q12,q13,q14,q15,q16,q17,q18⟩ := ho.sm (by omega)
      have hbl := gf.bl
      have hvl := gf.vl
      have cF := c53 r g q1 q2 q3 q4 q5 q6 q7 q9 q11 q12 (by omega) (by omega) (fun v hv => by
        have hf := hgo.ok v hv
        have := hf.f; have := hf.slen; have := hf.elen; omega) (fun v hv => by
        have hf := Version.may_fit (gf.bs v hv)
        have := hf.al; have := hf.tl; have := hf.bl; omega)
      have hot := ho.take (P := parse) (g := g) hgo.ok
      have cW := c54 { m with Fly := l } (r.take parse g).1 (by rw [take_id]; omega) (by rw [take_id]; have := ho.i1; show r.ID ≤ (m.Repls.length : Int); omega) (by show m.Repls.length ≤ 1000; omega)
      have hw := f1.with_ hot ((h.ri _ (List.mem_of_getElem? hr)).take ho hgo) (fun v hv hr2 => by rw [take_n]; rw [take_id] at hr2; exact h.sn r (List.mem_of_getElem? hr) v hv hr2)
      clear hgi t2 hgo
      refine ⟨(({ m with Fly := l } : Mesh).with_ (r.take parse g).1,(r.take parse g).2), ?_,hw⟩
      generalize r.take parse g = rt at *
      clear hw hot ho hgm gf q1 q2 q3 q4 q5 q6 q7 q8 q9 q10 q11 q12 q13 q14 q15 q16 q17 q18 f1 h0 h hc t1
      refine spec_of ok Go.Proofs.Tryz.func23 ok23 ?_
      refine (.i (s.Kind = 1) (fun _h61 => False.elim (by omega)) (fun _h61 => .i (s.Kind = 2) (fun _h62 => False.elim (by omega)) (fun _h62 => .i (s.Kind = 3) (fun _h63 => False.elim (by omega))
       (fun _h63 => .i (s.Kind = 4) (fun _h64 => False.elim (by omega)) (fun _h64 => .it hkind (.c (@cN) (.F
       (have _w65 : List.take gram.B.length (List.map (fun (c : UInt8) => AV.int IntKind.u8 (↑c.toNat : Int)) gram.B) = List.map (fun (c : UInt8) => AV.int IntKind.u8 (↑c.toNat : Int)) gram.B := List.take_of_length_le (by simp); .C ([.tree (List.take gram.B.length (List.map (fun (c : UInt8) => AV.int .u8 (↑c.toNat : Int)) gram.B)),.int .i64 m.Size]) ([]) (by simp [encB_fun,_w65]) rfl (@cT)
       (.F (have _w66 := wI64' (g.To - (1 : Int)); .k (0 ≤ IntKind.i64.wrap (g.To - 1)) (0 ≤ g.To - 1) (by simp only [_w66])
       (fun _h67 => .eH encRepl m.Repls ((IntKind.i64.wrap (g.To - 1)).toNat) (by simp only [_w66]) hr (.b (.c (@cF) (.c (@cW) .r)) (.c (@cF) (.c (@cW) .r)))) (fun _h67 => False.elim (by omega))))))))))))
end Go.Ab.Tryz
