/- Package offer: To. -/
import Derived.Test.YtmppanboolejjaaGreatOffer3
namespace Go.Ab.Tryz
open Go
set_option maxRecDepth 100000
set_option maxHeartbeats 4000000
def newsOf (seen : List Head) (l : List Version) : List Version := l.filter fun v => decide (0 < v.S.cmp (headAt seen v.Item))
theorem to_no (r : Repl) (to batch : Int) (h : ¬ (to ≠ r.ID ∧ 1 ≤ to ∧ to ≤ r.Size ∧ 1 ≤ batch ∧ batch ≤ 4)) : X.call 27 [encRepl r,.int .i64 to,.int .i64 batch] [] ⟨.tuple [encGossip ⟨0,0,[],[]⟩,.bool false],[],[]⟩ := by
  have c1 := c59 r to batch
  rw [decide_eq_false h] at c1
  clear h
  refine spec_of ok Go.Proofs.Tryz.func27 ok27 ?_
  refine (.c (@c1) (.T .r))
theorem to_yes (r : Repl) (size : Nat) (B : Int) (ho : r.Ok size B) (to batch : Int) (h : to ≠ r.ID ∧ 1 ≤ to ∧ to ≤ r.Size ∧ 1 ≤ batch ∧ batch ≤ 4) : ∃ (o : List Version) (w : View),X.call 27 [encRepl r,.int .i64 to,.int .i64 batch] [] ⟨.tuple [encGossip ⟨r.ID,to,r.Views.filter fun v => decide (0 < v.Rev),o.take (if batch < (o.length : Int) then batch else o.length).toNat⟩,.bool true],[],[]⟩ ∧ w ∈ r.Views ∧ w.R = to ∧ o.Perm (newsOf w.Seen r.Held) ∧ SortedTo o o.length := by
  have c1 := c59 r to batch
  rw [decide_eq_true h] at c1
  have hvl := ho.vl
  have hsz := ho.sz
  have hs5 := ho.s5
  have hhl := ho.hm.len
  have hlt : (to - 1).toNat < r.Views.length := by omega
  obtain ⟨w,hw⟩ : ∃ w,r.Views[(to - 1).toNat]? = some w := ⟨r.Views[(to - 1).toNat],by simp⟩
  have hwr := ho.vr _ _ hw
  have hwo := ho.vs _ (List.mem_of_getElem? hw)
  have c2 := known_ex r.Views to ho.vr h.2.1 (by omega) (by omega) hw
  have hord := (headsMay_iff.1 hwo.s).2
  have hsl := headsMay_len (by omega) hwo.s
  have hva : ∀ v ∈ r.Views,v.Seen.length ≤ 1000 ∧ v.Epochs.length ≤ 1000 := fun v hv => by
    have o := ho.vs v hv
    have := headsMay_len (by omega) o.s
    refine ⟨by omega, ?_⟩
    by_cases e : v.Rev = 0
    · rw [o.e0 e]; simp
    · rw [o.el e]; omega
  have c3 := c65 r.Views (by omega) hva
  have hat : ∀ v ∈ r.Held,v.Attrs.length ≤ 1000 := fun v hv => by have := (Version.may_fit (ho.hm.may v hv)).al; omega
  have hnl : (newsOf w.Seen r.Held).length ≤ 19 := Nat.le_trans (List.length_filter_le _ _) (by omega)
  obtain ⟨o,c4,o1,o2,o3⟩ := sorts_ex (newsOf w.Seen r.Held) hnl
  refine ⟨o,w, ?_,List.mem_of_getElem? hw,by omega,o2,o3⟩
  clear ho hwo o2 o3 hva
  refine spec_of ok Go.Proofs.Tryz.func27 ok27 ?_
  refine (.c (@c1) (.F (.c (@c2) ?_)))
  refine Sat.pLoop 6 (St.mk [(1,.int .i64 to),(2,.int .i64 batch),(3,.ref (.head 3 0) 0 0),(6,.ref (.head 6 0) 0 0),(8,.tree (List.map encHead w.Seen)),(9,.sref
   (.head 9 0) 0 0),(23,.tree (List.map encVersion r.Held)),(24,.int .i64 (↑(List.map encVersion r.Held).length : Int)),(25,.int .i64 0)] [(.head 3 0,.box (encRepl r) true),(.head 6 0,.box
   (.agg [.int .i64 0,.int .i64 0,.nils,.nils]) true),(.head 9 0,.row 8 [] true true)]) (by kernel_rfl) (fun (p : Nat × List Version) => ⟨[(1,.int .i64 to),(2,.int .i64 batch),(3,.ref
   (.head 3 0) 0 0),(6,.ref (.head 6 0) 0 0),(8,.tree (w.Seen.map encHead)),(9,.sref
   (.head 9 0) 0 p.2.length),(23,.tree (r.Held.map encVersion)),(24,.int .i64 r.Held.length),(25,.int .i64 p.1)],[(.head 3 0,.box (encRepl r) true),(.head 6 0,.box
   (.agg [.int .i64 0,.int .i64 0,.nils,.nils]) true),
   (.head 9 0,.row 8 (p.2.map encVersion) true true)]⟩) (fun p => p.1 ≤ r.Held.length ∧ p.2.length ≤ p.1 ∧ p.2 = newsOf w.Seen (r.Held.take p.1)) (fun p => r.Held.length - p.1) (0,[]) (by (simp [encRepl]; done)) ?_ ?_
  · exact ⟨by simp,by simp,by simp [newsOf]⟩
  · rintro ⟨k,q⟩ hI again
    obtain ⟨k1,k2,k3⟩ := hI
    simp only at k1 k2 k3
    by_cases hk : k < r.Held.length
    · obtain ⟨v,hv⟩ : ∃ v,r.Held[k]? = some v := ⟨r.Held[k],by simp⟩
      have hal := hat v (List.mem_of_getElem? hv)
      have hyes : 0 < v.S.cmp (headAt w.Seen v.Item) → q ++ [v] = newsOf w.Seen (r.Held.take (k + 1)) := fun hc => by
        unfold newsOf at *; rw [take_succ hv,List.filter_append,← k3]; simp [hc]
      have hno : ¬ 0 < v.S.cmp (headAt w.Seen v.Item) → q = newsOf w.Seen (r.Held.take (k + 1)) := fun hc => by
        unfold newsOf at *; rw [take_succ hv,List.filter_append,← k3]; simp [hc]
      clear k3
      refine (.et ((↑k : Int) < (↑r.Held.length : Int)) (by simp only [Int.ofNat_lt]) hk (.T (.eh encVersion hv (.c (@Tryz.c43 (w.Seen) (v.Item) ‹_› (by omega)) (.c (@Tryz.c61 (v.S) (headAt w.Seen v.Item))
       (.i (0 < v.S.cmp (headAt w.Seen v.Item)) (fun _h42 => have _hc43 := (hyes _h42); .c (@Tryz.c62 (v.Attrs) ‹_›) (.i ((q.length + 1) * (96 : Nat) ≤ 140737488355328)
       (fun _h44 => .k (q.length = (List.map encVersion q).length) (True) (by simp only [List.length_map])
       (fun _h45 => have _w46 := wI64' ((↑k : Int) + (1 : Int)); have _w47 : List.take v.Attrs.length (List.map encAttr v.Attrs) = List.map encAttr v.Attrs := List.take_of_length_le (by simp); .A (St.mk [(1,.int .i64 to),(2,.int .i64 batch),(3,.ref
       (.head 3 0) 0 0),(6,.ref (.head 6 0) 0 0),(8,.tree (List.map encHead w.Seen)),(9,.sref
       (.head 9 0) 0 (q.length + 1)),(23,.tree (List.map encVersion r.Held)),(24,.int .i64 (↑r.Held.length : Int)),(25,.int .i64 (IntKind.i64.wrap ((↑k : Int) + 1)))] [(.head 3 0,.box (encRepl r) true),
       (.head 6 0,.box (.agg [.int .i64 0,.int .i64 0,.nils,.nils]) true),
       (.head 9 0,.row 8 (List.map encVersion q ++ [.agg [.int .i64 v.Item,.int .i64 v.S.L,.int .i64 v.S.R,.int .i64 v.S.N,.bool v.Dead,.tree (List.take v.Attrs.length (List.map encAttr v.Attrs)),.str v.Tag,.str v.Body]]) true true)]) (by simp [encVersion,encRepl,_w47,_w46]) (again ((k + (1 : Nat),q ++ [v])) ⟨(by dsimp only; omega),⟨(by dsimp only; (clear c1 c2 c3 c4 again; (simp; omega))),(by dsimp only; omega)⟩⟩ (by dsimp only; omega)))
       (fun _h45 => (_h45 trivial).elim)) (fun _h44 => False.elim (by omega))))
       (fun _h42 => have _hc48 := (hno _h42); have _w49 := wI64' ((↑k : Int) + (1 : Int)); .A (St.mk [(1,.int .i64 to),(2,.int .i64 batch),(3,.ref (.head 3 0) 0 0),(6,.ref
       (.head 6 0) 0 0),(8,.tree (List.map encHead w.Seen)),(9,.sref
       (.head 9 0) 0 q.length),(23,.tree (List.map encVersion r.Held)),(24,.int .i64 (↑r.Held.length : Int)),(25,.int .i64 (IntKind.i64.wrap ((↑k : Int) + 1)))] [(.head 3 0,.box (encRepl r) true),
       (.head 6 0,.box (.agg [.int .i64 0,.int .i64 0,.nils,.nils]) true),
       (.head 9 0,.row 8 (List.map encVersion q) true true)]) (by simp [encRepl,_w49]) (again ((k + (1 : Nat),q)) ⟨(by dsimp only; omega),⟨(by dsimp only; omega),(by dsimp only; omega)⟩⟩ (by dsimp only; omega)))))))))
    · have e : q = newsOf w.Seen r.Held := by rw [k3,List.take_of_length_le (by omega)]
      rw [← e] at c4 hnl o1
      clear k3 e
      refine (.eF ((↑k : Int) < (↑r.Held.length : Int)) (by simp only [Int.ofNat_lt]) hk (.c (@c4)
       (.i ((0 ≤ if batch < (↑q.length : Int) then batch else (↑q.length : Int)) ∧ (if batch < (↑q.length : Int) then batch else (↑q.length : Int)) ≤ (↑q.length : Int)) (fun _h39 => .c (@c3)
       (.q (Res.mk (AV.tuple [.agg [.int .i64 r.ID,.int .i64 to,.tree (List.map encView (List.filter (fun (v : View) => decide (0 < v.Rev)) r.Views)),.tree (List.take (if batch < (↑q.length : Int) then batch else (↑q.length : Int)).toNat (List.map encVersion o))],.bool true]) [] []) (by simp [encGossip,o1,List.map_take]; done)))
       (fun _h39 => False.elim (by omega)))))
end Go.Ab.Tryz
