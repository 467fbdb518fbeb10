/- Package offer: what one tells another. -/
import Derived.Test.YtmppanboolejjaaGreatOffer2
namespace Go.Ab.Tryz
open Go
set_option maxRecDepth 100000
set_option maxHeartbeats 4000000
theorem stable_ex (l : List Version) (hl : l.length ≤ 19) : ∃ o : List Version,X.call 104 [.sref (.inc 0) 0 l.length,.int .i64 l.length,.func 64 [] []] [.row 8 (l.map encVersion) true true] ⟨.tuple [],[.row 8 (o.map encVersion) true true],[]⟩ ∧ o.length = l.length ∧ o.Perm l ∧ SortedTo o o.length := by
  obtain ⟨o,c1,c2,c3,c4⟩ := sort_ex l hl
  refine ⟨o, ?_,c2,c3,c4⟩
  clear c3 c4
  refine spec_of ok Go.Proofs.Tryz.func104 ok104 ?_
  refine ?_
  refine Sat.pUnroll 2 (St.mk [(0,.sref
   (.inc 0) 0 l.length),(1,.int .i64 (↑l.length : Int)),(2,AV.func (64 : FuncId) [] []),(6,.int .i64 20),(7,.int .i64 0),(8,.int .i64 20)] [(.inc 0,.row 8 (List.map encVersion l) true true)]) (by kernel_rfl) ?_
  refine (.k (20 ≤ (↑l.length : Int)) (20 ≤ l.length) (by simp only [ciLe]) (fun _h6 => False.elim (by omega)) (fun _h6 => .c (@c1) ?_))
  refine Sat.pUnroll 7 (St.mk [(0,.sref
   (.inc 0) 0 l.length),(1,.int .i64 (↑l.length : Int)),(2,AV.func (64 : FuncId) [] []),(6,.int .i64 20)] [(.inc 0,.row 8 (List.map encVersion o) true true)]) (by kernel_rfl) ?_
  refine (.k (20 < (↑l.length : Int)) (20 < l.length) (by simp only [ciLt]) (fun _h7 => False.elim (by omega)) (fun _h7 => .r))
theorem sorts_ex (l : List Version) (hl : l.length ≤ 19) : ∃ o : List Version,X.call 63 [.sref (.inc 0) 0 l.length,.func 64 [] []] [.row 8 (l.map encVersion) true true] ⟨.tuple [],[.row 8 (o.map encVersion) true true],[]⟩ ∧ o.length = l.length ∧ o.Perm l ∧ SortedTo o o.length := by
  obtain ⟨o,c1,c2,c3,c4⟩ := stable_ex l hl
  refine ⟨o, ?_,c2,c3,c4⟩
  clear c3 c4
  refine spec_of ok Go.Proofs.Tryz.func63 ok63 ?_
  refine (.c (@c1) .r)
theorem index_ex (l : List View) (to : Int) (h : ∀ (i : Nat) (w : View),l[i]? = some w → w.R = (i : Int) + 1) (h1 : 1 ≤ to) (h2 : to ≤ l.length) (hl : l.length ≤ 1000) : X.call 100 [.tree (l.map encView),.func 101 [] [.cptr (.int .i64 to)]] [] ⟨.int .i64 (to - 1),[],[]⟩ := by
  refine spec_of ok Go.Proofs.Tryz.func100 ok100 ?_
  refine ?_
  refine Sat.pLoop 2 (St.mk [(0,AV.tree (List.map encView l)),(1,AV.func (101 : FuncId) [] [(AV.int IntKind.i64 to).cptr]),(7,AV.int IntKind.i64 (↑(List.map encView l).length : Int)),(8,AV.int IntKind.i64 0)] []) (by kernel_rfl) (fun (k : Nat) => ⟨[(0,.tree (l.map encView)),(1,.func 101 [] [.cptr
   (.int .i64 to)]),(7,.int .i64 l.length),(8,.int .i64 k)],[]⟩) (fun k => (k : Int) ≤ to - 1) (fun k => l.length - k) 0 (by simp) ?_ ?_
  · simp; omega
  · intro k hk again
    obtain ⟨w,hw⟩ : ∃ w,l[k]? = some w := ⟨l[k]'(by omega),by simp⟩
    have hr := h k w hw
    refine (.k ((↑k : Int) < (↑l.length : Int)) (k < l.length) (by simp only [Int.ofNat_lt]) (fun _h13 => .T (.eh encView hw (.c (@Go.Ab.Tryz.c101 (w) (to)) (.i (w.R = to)
     (fun _h14 => .q (Res.mk (AV.int IntKind.i64 (↑k : Int)) [] []) (by (clear again; simp_all)))
     (fun _h14 => have _w15 := wI64' ((↑k : Int) + (1 : Int)); .A (St.mk [(0,AV.tree (List.map encView l)),(1,AV.func (101 : FuncId) [] [(AV.int IntKind.i64 to).cptr]),(7,AV.int IntKind.i64 (↑l.length : Int)),(8,AV.int IntKind.i64 (IntKind.i64.wrap ((↑k : Int) + 1)))] []) (by simp [_w15]) (again (k + (1 : Nat)) (by omega) (by omega)))))))
     (fun _h13 => False.elim (by omega)))
theorem known_ex (l : List View) (to : Int) (h : ∀ (i : Nat) (w : View),l[i]? = some w → w.R = (i : Int) + 1) (h1 : 1 ≤ to) (h2 : to ≤ l.length) (hl : l.length ≤ 1000) {w : View} (hw : l[(to - 1).toNat]? = some w) : X.call 60 [.tree (l.map encView),.int .i64 to] [] ⟨.tree (w.Seen.map encHead),[],[]⟩ := by
  have c1 := index_ex l to h h1 h2 hl
  refine spec_of ok Go.Proofs.Tryz.func60 ok60 ?_
  refine (.c (@c1) (.i (to - (1 : Int) < 0) (fun _h10 => False.elim (by omega)) (fun _h10 => .i (0 ≤ to - 1) (fun _h11 => .eh encView hw .r) (fun _h11 => False.elim (by omega)))))
end Go.Ab.Tryz
