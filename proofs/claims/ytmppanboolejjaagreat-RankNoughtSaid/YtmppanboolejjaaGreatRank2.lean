/- Package repl: its own view, as plain Lean. -/
import Derived.Test.YtmppanboolejjaaGreatRank
namespace Go.Ab.Tryz
open Go
set_option maxRecDepth 100000
set_option maxHeartbeats 4000000
theorem c112 (v : View) (r : Repl) : X.call 112 [encView v,.cptr (encRepl r)] [] ⟨.bool (decide (v.R = r.ID)),[],[]⟩ := by
  refine spec_of ok Go.Proofs.Tryz.func112 ok112 ?_
  refine .r
theorem c100 (r : Repl) (h : ∀ (i : Nat) (w : View),r.Views[i]? = some w → w.R = (i : Int) + 1) (h1 : 1 ≤ r.ID) (h2 : r.ID ≤ r.Views.length) (hl : r.Views.length ≤ 1000) : X.call 100 [.tree (r.Views.map encView),.func 112 [] [.cptr (encRepl r)]] [] ⟨.int .i64 (r.ID - 1),[],[]⟩ := by
  refine spec_of ok Go.Proofs.Tryz.func100 ok100 ?_
  refine ?_
  refine Sat.pLoop 2 (St.mk [(0,.tree (List.map encView r.Views)),(1,AV.func (112 : FuncId) [] [(encRepl r).cptr]),(7,.int .i64 (↑(List.map encView r.Views).length : Int)),(8,.int .i64 0)] []) (by kernel_rfl) (fun (k : Nat) => ⟨[(0,.tree (r.Views.map encView)),(1,.func 112 [] [.cptr (encRepl r)]),(7,.int .i64 r.Views.length),(8,.int .i64 k)],[]⟩) (fun k => (k : Int) ≤ r.ID - 1) (fun k => r.Views.length - k) 0 (by simp) ?_ ?_
  · simp; omega
  · intro k hk again
    obtain ⟨w,hw⟩ : ∃ w,r.Views[k]? = some w := ⟨r.Views[k]'(by omega),by simp⟩
    have hR := h k w hw
    refine (.k ((↑k : Int) < (↑r.Views.length : Int)) (k < r.Views.length) (by simp only [Int.ofNat_lt]) (fun _h12 => .T (.eh encView hw (.c (@Tryz.c112 (w) (r)) (.i (w.R = r.ID) (fun _h13 => .q (Res.mk
     (.int .i64 (↑k : Int)) [] []) (by (clear again; (simp; omega))))
     (fun _h13 => have _w14 := wI64' ((↑k : Int) + (1 : Int)); .A (St.mk [(0,.tree (List.map encView r.Views)),(1,AV.func (112 : FuncId) [] [(encRepl r).cptr]),(7,.int .i64 (↑r.Views.length : Int)),(8,.int .i64 (IntKind.i64.wrap ((↑k : Int) + 1)))] []) (by simp [_w14]) (again (k + (1 : Nat)) (by omega) (by omega)))))))
     (fun _h12 => False.elim (by omega)))
theorem c74 (r : Repl) (h : ∀ (i : Nat) (w : View),r.Views[i]? = some w → w.R = (i : Int) + 1) (h1 : 1 ≤ r.ID) (h2 : r.ID ≤ r.Views.length) (hl : r.Views.length ≤ 1000) : X.call 74 [encRepl r] [] ⟨.tuple [.int .i64 (r.ID - 1),.bool true],[],[]⟩ := by
  refine spec_of ok Go.Proofs.Tryz.func74 ok74 ?_
  refine (.c (@Tryz.c100 (r) ‹_› ‹_› ‹_› ‹_›) (.q (Res.mk (AV.tuple [.int .i64 (if 0 > r.ID - 1 then 0 else r.ID - 1),.bool (decide (0 ≤ r.ID - 1))]) [] []) (by (simp_all; omega))))
theorem c40 (r : Repl) (h : ∀ (i : Nat) (w : View),r.Views[i]? = some w → w.R = (i : Int) + 1) (h1 : 1 ≤ r.ID) (h2 : r.ID ≤ r.Views.length) (hl : r.Views.length ≤ 1000) (hh : r.Held.length ≤ 1000) (h3 : ∀ v ∈ r.Held,v.Attrs.length ≤ 1000) (h4 : ∀ w ∈ r.Views,w.Seen.length ≤ 1000 ∧ w.Epochs.length ≤ 1000) : X.call 40 [encRepl r] [] ⟨encView (ownOf r.ID r.Views),[],[]⟩ := by
  obtain ⟨w,hw⟩ : ∃ w,r.Views[(r.ID - 1).toNat]? = some w := ⟨r.Views[(r.ID - 1).toNat]'(by omega),by simp⟩
  rw [own_at hw h1]
  refine spec_of ok Go.Proofs.Tryz.func40 ok40 ?_
  refine (.c (@Tryz.c74 (r) ‹_› ‹_› ‹_› ‹_›) (.T (.c (@Tryz.c75 (r) ‹_› ‹_› ‹_› ‹_›) (.i (0 ≤ r.ID - 1) (fun _h11 => .eh encView hw .r) (fun _h11 => False.elim (by omega))))))
end Go.Ab.Tryz
