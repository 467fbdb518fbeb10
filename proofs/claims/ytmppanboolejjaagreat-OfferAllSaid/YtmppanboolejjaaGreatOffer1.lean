/- Package offer: what is known, and versions in order. -/
import Derived.Test.YtmppanboolejjaaGreatRank4
import Derived.Test.YtmppanboolejjaaGreatRank2
import Derived.Test.YtmppanboolejjaaGreatG3
namespace Go.Ab.Tryz
open Go
set_option maxRecDepth 100000
set_option maxHeartbeats 4000000
theorem c129 (v : View) (h1 : v.Seen.length ≤ 1000) (h2 : v.Epochs.length ≤ 1000) : X.call 129 [encView v] [] ⟨encView v,[],[]⟩ := by
  refine spec_of ok Go.Proofs.Tryz.func129 ok129 ?_
  refine (.c (@Tryz.c115 (v.Seen) ‹_›) (.c (@Tryz.c116 (v.Epochs) ‹_›)
   (have _w4 : List.take v.Seen.length (List.map encHead v.Seen) = List.map encHead v.Seen := List.take_of_length_le (by simp); have _w5 : List.take v.Epochs.length (List.map encI v.Epochs) = List.map encI v.Epochs := List.take_of_length_le (by simp); .q (Res.mk
   (.agg [.int .i64 v.R,.int .i64 v.Rev,.str v.Filter,.tree (List.take v.Seen.length (List.map encHead v.Seen)),.tree (List.take v.Epochs.length (List.map encI v.Epochs))]) [] []) (by (simp [encView,List.take_of_length_le]; done)))))
theorem merge_nil (a : List View) (h : a.length ≤ 1000) (ha : ∀ v ∈ a,v.Seen.length ≤ 1000 ∧ v.Epochs.length ≤ 1000) : X.call 105 [.tree (a.map encView),.tree []] [] ⟨.tree (a.map encView),[],[]⟩ := by
  refine spec_of ok Go.Proofs.Tryz.func105 ok105 ?_
  refine ?_
  refine Sat.pLoop 1 (St.mk [(0,.tree (List.map encView a)),(1,.tree []),(4,.sref
   (.head 4 0) 0 0)] [(.head 4 0,.row 5 [] true true)]) (by kernel_rfl) (fun (p : List View × List View) => ⟨[(0,.tree (p.1.map encView)),(1,.tree []),(4,.sref
   (.head 4 0) 0 p.2.length)],[(.head 4 0,.row 5 (p.2.map encView) true true)]⟩) (fun p => p.2.length + p.1.length ≤ 1000 ∧ (∀ v ∈ p.1,v.Seen.length ≤ 1000 ∧ v.Epochs.length ≤ 1000) ∧ p.2 ++ p.1 = a) (fun p => p.1.length) (a,[]) rfl ?_ ?_
  · exact ⟨by simpa using h,ha,rfl⟩
  · rintro ⟨x,o⟩ hI again
    obtain ⟨i3,i4,i6⟩ := hI
    simp only at i3 i4 i6
    rcases x with _ | ⟨u,x⟩
    · have e : o = a := by rw [← i6]; simp
      refine (.F (.F (.F (.F (.F (have _w11 : List.take o.length (List.map encView o) = List.map encView o := List.take_of_length_le (by simp); .q (Res.mk
       (.tree (List.take o.length (List.map encView o))) [] []) (by (clear again; (rw [e]; simp [List.take_of_length_le]; done)))))))))
    · have hu := i4 u (List.mem_cons_self ..)
      simp only [List.length_cons] at i3
      have i4' : ∀ w ∈ x,w.Seen.length ≤ 1000 ∧ w.Epochs.length ≤ 1000 := fun w hw => i4 w (List.mem_cons_of_mem _ hw)
      clear i4
      refine (.k (0 < (↑(List.map encView (u :: x)).length : Int)) (0 < x.length + 1) (by simp only [List.length_map,List.length_cons,ciLt])
       (fun _h14 => .et (0 < (↑(List.map encView (u :: x)).length : Int)) (by simp only [List.length_map,List.length_cons,ciLt]) _h14
       (.et (0 < (↑(List.map encView (u :: x)).length : Int)) (by simp only [List.length_map,List.length_cons,ciLt]) _h14
       (.et (0 < (↑(List.map encView (u :: x)).length : Int)) (by simp only [List.length_map,List.length_cons,ciLt]) _h14 (.T (.T (.T (.T (.T (.T (.T (.T (.T
       (Sat.pElem (List.map encView (u :: x)) ((0 : Nat)) (encView u) (by kernel_rfl) rfl (.z encView (u :: x) 5 (fun _ => rfl)
       (.k ((0 : Int) ≤ 1 ∧ 1 ≤ (↑(List.map encView (u :: x)).length : Int)) ((0 : Int) ≤ 1 ∧ 1 ≤ x.length + 1) (by simp only [List.length_map,List.length_cons,ciLe])
       (fun _h15 => .c (@Tryz.c129 (u) (by omega) (by omega)) (.i ((o.length + 1) * (80 : Nat) ≤ 140737488355328)
       (fun _h16 => .k (o.length = (List.map encView o).length) (True) (by simp only [List.length_map]) (fun _h17 => .A (St.mk [(0,.tree (List.drop 1 (List.map encView (u :: x)))),(1,.tree []),(4,.sref
       (.head 4 0) 0 (o.length + 1))] [(.head 4 0,.row 5 (List.map encView o ++ [encView u]) true true)]) (by simp [encView]) (again ((List.drop (1 : Nat) (u :: x),o ++ [u])) ⟨(by dsimp only; (clear again; (simp; omega))),⟨(by dsimp only; assumption),(by dsimp only; (clear again; (simp; omega)))⟩⟩ (by dsimp only; (clear again; (simp; done)))))
       (fun _h17 => (_h17 trivial).elim)) (fun _h16 => False.elim (by omega)))) (fun _h15 => False.elim (by omega))))))))))))))))) (fun _h14 => False.elim (by omega)))
theorem c65 (l : List View) (h : l.length ≤ 1000) (ha : ∀ v ∈ l,v.Seen.length ≤ 1000 ∧ v.Epochs.length ≤ 1000) : X.call 65 [.tree (l.map encView)] [] ⟨.tree ((l.filter fun v => decide (0 < v.Rev)).map encView),[],[]⟩ := by
  have cM := merge_nil l h ha
  refine spec_of ok Go.Proofs.Tryz.func65 ok65 ?_
  refine (.c (@cM) ?_)
  refine Sat.pLoop 2 (St.mk [(2,.sref
   (.head 2 0) 0 0),(6,.tree (List.map encView l)),(7,.int .i64 (↑(List.map encView l).length : Int)),(8,.int .i64 0)] [(.head 2 0,.row 5 [] true true)]) (by kernel_rfl) (fun (p : Nat × List View) => ⟨[(2,.sref
   (.head 2 0) 0 p.2.length),(6,.tree (l.map encView)),(7,.int .i64 l.length),(8,.int .i64 p.1)],[(.head 2 0,.row 5 (p.2.map encView) true true)]⟩) (fun p => p.1 ≤ l.length ∧ p.2.length ≤ p.1 ∧ p.2 = (l.take p.1).filter fun v => decide (0 < v.Rev)) (fun p => l.length - p.1) (0,[]) (by simp) ?_ ?_
  · exact ⟨by simp,by simp,by simp⟩
  · rintro ⟨k,o⟩ hI again
    obtain ⟨k1,k2,k3⟩ := hI
    simp only at k1 k2 k3
    refine (.k ((↑k : Int) < (↑l.length : Int)) (k < l.length) (by simp only [Int.ofNat_lt]) (fun _h12 => .T (.em encView l k ‹_›
     (fun _x13 _hx14 => have _hc15 := (ha _x13 (List.mem_of_getElem? _hx14)).1; have _hc16 := (ha _x13 (List.mem_of_getElem? _hx14)).2; .i (0 < _x13.Rev)
     (fun _h17 => .i ((o.length + 1) * (80 : Nat) ≤ 140737488355328) (fun _h18 => .k (o.length = (List.map encView o).length) (True) (by simp only [List.length_map])
     (fun _h19 => have _w20 := wI64' ((↑k : Int) + (1 : Int)); .A (St.mk [(2,.sref
     (.head 2 0) 0 (o.length + 1)),(6,.tree (List.map encView l)),(7,.int .i64 (↑l.length : Int)),(8,.int .i64 (IntKind.i64.wrap ((↑k : Int) + 1)))] [(.head 2 0,.row 5 (List.map encView o ++ [encView _x13]) true true)]) (by simp [_w20]) (again ((k + (1 : Nat),o ++ [_x13])) ⟨(by dsimp only; omega),⟨(by dsimp only; (clear cM again; (simp; omega))),(by dsimp only; (clear cM again; (rw [take_succ ‹_›,List.filter_append,← k3]; simp [*]; done)))⟩⟩ (by dsimp only; omega)))
     (fun _h19 => (_h19 trivial).elim)) (fun _h18 => False.elim (by omega))) (fun _h17 => have _w21 := wI64' ((↑k : Int) + (1 : Int)); .A (St.mk [(2,.sref
     (.head 2 0) 0 o.length),(6,.tree (List.map encView l)),(7,.int .i64 (↑l.length : Int)),(8,.int .i64 (IntKind.i64.wrap ((↑k : Int) + 1)))] [(.head 2 0,.row 5 (List.map encView o) true true)]) (by simp [_w21]) (again ((k + (1 : Nat),o)) ⟨(by dsimp only; omega),⟨(by dsimp only; omega),(by dsimp only; (clear cM again; (rw [take_succ ‹_›,List.filter_append,← k3]; simp [*]; done)))⟩⟩ (by dsimp only; omega))))))
     (fun _h12 => have _w22 : List.take o.length (List.map encView o) = List.map encView o := List.take_of_length_le (by simp); .q (Res.mk
     (.tree (List.take o.length (List.map encView o))) [] []) (by (clear cM again; (rw [List.take_of_length_le (by simp),k3,List.take_of_length_le (by omega)])))))
theorem c59 (r : Repl) (to batch : Int) : X.call 59 [encRepl r,.int .i64 to,.int .i64 batch] [] ⟨.bool (decide (to ≠ r.ID ∧ 1 ≤ to ∧ to ≤ r.Size ∧ 1 ≤ batch ∧ batch ≤ 4)),[],[]⟩ := by
  refine spec_of ok Go.Proofs.Tryz.func59 ok59 ?_
  refine (.i (to = r.ID) (fun _h4 => .q (Res.mk (.bool false) [] []) (by (simp; omega))) (fun _h4 => .i (to < 1) (fun _h5 => .it _h5 (.it _h5 (.it _h5 (.it _h5 (.T (.q (Res.mk
   (.bool false) [] []) (by (simp; omega)))))))) (fun _h5 => .iF _h5 (.iF _h5 (.iF _h5 (.iF _h5 (.i (r.Size < to) (fun _h6 => .q (Res.mk (.bool false) [] []) (by (simp; omega))) (fun _h6 => .i (1 ≤ batch)
   (fun _h7 => .it _h7 (.it _h7 (.q (Res.mk (.bool (decide (batch ≤ 4))) [] []) (by simp_all)))) (fun _h7 => .iF _h7 (.iF _h7 (.q (Res.mk (.bool false) [] []) (by (simp; omega)))))))))))))
theorem c101 (v : View) (to : Int) : X.call 101 [encView v,.cptr (.int .i64 to)] [] ⟨.bool (decide (v.R = to)),[],[]⟩ := by
  refine spec_of ok Go.Proofs.Tryz.func101 ok101 ?_
  refine .r
theorem c64 (a b : Version) : X.call 64 [encVersion a,encVersion b] [] ⟨.int .i64 (a.S.cmp b.S),[],[]⟩ := by
  refine spec_of ok Go.Proofs.Tryz.func64 ok64 ?_
  refine (.c (@Tryz.c61 (a.S) (b.S)) .r)
end Go.Ab.Tryz
