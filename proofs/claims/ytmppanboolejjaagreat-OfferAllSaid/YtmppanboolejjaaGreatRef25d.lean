/- Package cardamomref25: steps, and what one tells another, of meshes that may be. -/
import Derived.Test.YtmppanboolejjaaGreatRef25a
import Derived.Test.YtmppanboolejjaaGreatRef11f
import Derived.Test.YtmppanboolejjaaGreatRef16e
import Derived.Test.YtmppanboolejjaaGreatRef20
import Derived.Test.YtmppanboolejjaaGreatG3
namespace Go.Ab.Tryz
open Go
set_option maxRecDepth 100000
set_option maxHeartbeats 4000000
theorem parse_Short : Prs.Short parse := fun s h => parse_len s h
theorem comes_sub (l : List Gram) (i : Int) : (netComes l i).1.Sublist l := by
  unfold netComes; split
  · exact List.eraseIdx_sublist ..
  · exact List.Sublist.refl _
theorem send_ok {l : List Gram} {g : Gram} (hl : l.length ≤ 20) (h : ∀ x ∈ l,x.B.length ≤ 5000) (hg : g.B.length ≤ 5000) : (netSend l g).length ≤ 20 ∧ ∀ x ∈ netSend l g,x.B.length ≤ 5000 := by
  unfold netSend; split
  · exact ⟨hl,h⟩
  · refine ⟨by simp; omega,fun x hx => ?_⟩
    rcases List.mem_append.1 hx with hx | hx
    · exact h x hx
    · rw [List.mem_singleton.1 hx]; exact hg
theorem twice_ok {l : List Gram} {i : Int} (hl : l.length ≤ 20) (h : ∀ x ∈ l,x.B.length ≤ 5000) : (netTwice l i).length ≤ 20 ∧ ∀ x ∈ netTwice l i,x.B.length ≤ 5000 := by
  unfold netTwice; split
  · exact send_ok hl h (h _ (List.getElem_mem _))
  · exact ⟨hl,h⟩
theorem turned_ok {l : List Gram} {i to : Int} (hl : l.length ≤ 20) (h : ∀ x ∈ l,x.B.length ≤ 5000) : (netTurned l i to).1.length ≤ 20 ∧ ∀ x ∈ (netTurned l i to).1,x.B.length ≤ 5000 := by
  unfold netTurned; split
  · rename_i hb
    dsimp only
    split
    · exact ⟨hl,h⟩
    · split
      · exact ⟨hl,h⟩
      · refine ⟨by simpa using hl,fun x hx => ?_⟩
        rcases List.mem_or_eq_of_mem_set hx with hx | rfl
        · exact h x hx
        · have := h _ (List.getElem_mem (l := l) (n := i.toNat) (by omega))
          simpa [turnB] using this
  · exact ⟨hl,h⟩
theorem do_lost (m : Mesh) (s : Step) (size k : Nat) (B : Int) (h : m.Ok size B k) (hB2 : B ≤ 1000000000) (hk : k ≤ 9000) (hto : s.To < 1000000) (hkind : 6 ≤ s.Kind) : ∃ p : Mesh × Int,X.call 23 [encMesh m,encStep s] [] ⟨.tuple [encMesh p.1,.int .i64 p.2],[],[]⟩ ∧ p.1.Ok size (B + 1) (k + 1) := by
  have hrl := h.rl
  have hsz := h.sz
  have hs5 := h.s5
  have hfl := h.fl
  have hil := h.il
  have hel := h.el
  have hb0 := h.b0
  have hb1 := h.b1
  have hfb := h.fb
  have hc := comes_sub m.Fly s.I
  have h0 := h.mono (B' := B + 1) (k' := k + 1) (by omega) (by omega)
  have f1 := h0.fly (l := (netComes m.Fly s.I).1) (by have := hc.length_le; omega) (fun g hg => hfb g (hc.subset hg)) (fun g hg => h0.fi g (hc.subset hg))
  have f2 := h0.fly (l := netTwice m.Fly s.I) (twice_ok hfl hfb).1 (twice_ok hfl hfb).2 (twice_in h0.fi)
  have f3 := h0.fly (l := (netTurned m.Fly s.I s.To).1) (turned_ok hfl hfb).1 (turned_ok hfl hfb).2 (turned_in h0.fi)
  refine spec_ex ok Go.Proofs.Tryz.func23 ok23 ?_
  refine (.i (s.Kind = 1) (fun _h25 => False.elim (by omega)) (fun _h25 => .i (s.Kind = 2) (fun _h26 => False.elim (by omega)) (fun _h26 => .i (s.Kind = 3) (fun _h27 => False.elim (by omega))
   (fun _h27 => .i (s.Kind = 4) (fun _h28 => False.elim (by omega)) (fun _h28 => .i (s.Kind = 5) (fun _h29 => False.elim (by omega)) (fun _h29 => .i (s.Kind = 6)
   (fun _h30 => .c (@Tryz.c55 (m.Fly) (s.I) ‹_›) (.m ((netComes m.Fly s.I).snd.snd) (fun _h31 => .r (Mesh.mk m.Size m.Batch m.Edges m.Repls m.Fly m.Issued,3) (by dsimp only; trivial))
   (fun _h31 => .r (Mesh.mk m.Size m.Batch m.Edges m.Repls (netComes m.Fly s.I).fst m.Issued,0) (by dsimp only; trivial)))) (fun _h30 => .i (s.Kind = 7) (fun _h32 => .c (@Tryz.c56 (m.Fly) (s.I) ‹_›)
   (.j (0 ≤ s.I ∧ s.I < (↑m.Fly.length : Int) ∧ m.Fly.length < 20) (fun _h33 => .r (Mesh.mk m.Size m.Batch m.Edges m.Repls m.Fly m.Issued,3) (by dsimp only; trivial))
   (fun _h33 => .r (Mesh.mk m.Size m.Batch m.Edges m.Repls (netTwice m.Fly s.I) m.Issued,0) (by dsimp only; trivial)))) (fun _h32 => .i (s.Kind = 8)
   (fun _h34 => .c (@Tryz.c57 (m.Fly) (s.I) (s.To) ‹_› ‹_›) (.m ((netTurned m.Fly s.I s.To).snd) (fun _h35 => .r (Mesh.mk m.Size m.Batch m.Edges m.Repls m.Fly m.Issued,3) (by dsimp only; trivial))
   (fun _h35 => .r (Mesh.mk m.Size m.Batch m.Edges m.Repls (netTurned m.Fly s.I s.To).fst m.Issued,0) (by dsimp only; trivial))))
   (fun _h34 => .r (Mesh.mk m.Size m.Batch m.Edges m.Repls m.Fly m.Issued,1) (by dsimp only; trivial))))))))))
end Go.Ab.Tryz
