/- Package cardamomref11: what one tells another, what is taken, as plain Lean. -/
import Derived.Test.YtmppanboolejjaaGreatRef11d
import Derived.Test.YtmppanboolejjaaGreatRef1f
namespace Go.Ab.Tryz
open Go
set_option maxRecDepth 100000
set_option maxHeartbeats 4000000
theorem c28 (r : Repl) (to batch : Int) (hl : r.Views.length ≤ 1000) (h0 : r.Size ≤ r.Views.length) (hw : ∀ w ∈ r.Views,w.Seen.length ≤ 100000) (hh : r.Held.length ≤ 1000) (hr : ∃ w ∈ r.Views,0 < w.Rev) : ∃ p : Gossip × Bool,X.call 28 [encRepl r,.int .i64 to,.int .i64 batch] [] ⟨.tuple [encGossip p.1,.bool p.2],[],[]⟩ ∧ (p.2 = true → p.1.From = r.ID ∧ p.1.To = to ∧ 1 ≤ to ∧ to ≤ r.Size ∧ to ≠ r.ID) ∧ (∀ w ∈ p.1.Views,w ∈ r.Views) ∧ p.1.Views.length ≤ r.Views.length ∧ (∀ v ∈ p.1.Batch,v ∈ r.Held) ∧ p.1.Batch.length ≤ 4 := by
  refine spec_ex ok Go.Proofs.Tryz.func28 ok28 ?_
  refine (.i (to < 1) (fun _h9 => .it _h9 (.it _h9 (.it _h9 (.it _h9 (.T (.T (.T (.T (.T (.T (.T (.T (.T (.T (.T (.T
   (.r (Gossip.mk 0 0 [] [],false) ⟨(by dsimp only; simp),⟨(by dsimp only; (intro w hw; cases hw)),⟨(by show (0 : Nat) ≤ r.Views.length; omega),⟨(by dsimp only; (intro w hw; cases hw)),(by dsimp only; trivial)⟩⟩⟩⟩)))))))))))))))))
   (fun _h9 => .iF _h9 (.iF _h9 (.iF _h9 (.iF _h9 (.i (r.Size < to) (fun _h10 => .it _h10 (.it _h10 (.it _h10 (.it _h10 (.T (.T (.T (.T (.T (.T (.T
   (.r (Gossip.mk 0 0 [] [],false) ⟨(by dsimp only; simp),⟨(by dsimp only; (intro w hw; cases hw)),⟨(by show (0 : Nat) ≤ r.Views.length; omega),⟨(by dsimp only; (intro w hw; cases hw)),(by dsimp only; trivial)⟩⟩⟩⟩))))))))))))
   (fun _h10 => .iF _h10 (.iF _h10 (.iF _h10 (.iF _h10 (.i (to = r.ID) (fun _h11 => .it _h11 (.it _h11 (.T (.T (.T (.T
   (.r (Gossip.mk 0 0 [] [],false) ⟨(by dsimp only; simp),⟨(by dsimp only; (intro w hw; cases hw)),⟨(by show (0 : Nat) ≤ r.Views.length; omega),⟨(by dsimp only; (intro w hw; cases hw)),(by dsimp only; trivial)⟩⟩⟩⟩)))))))
   (fun _h11 => .iF _h11 (.iF _h11 (.i (batch < 1) (fun _h12 => .it _h12 (.it _h12 (.T
   (.r (Gossip.mk 0 0 [] [],false) ⟨(by dsimp only; simp),⟨(by dsimp only; (intro w hw; cases hw)),⟨(by show (0 : Nat) ≤ r.Views.length; omega),⟨(by dsimp only; (intro w hw; cases hw)),(by dsimp only; trivial)⟩⟩⟩⟩))))
   (fun _h12 => .iF _h12 (.iF _h12 (.i (4 < batch)
   (fun _h13 => .r (Gossip.mk 0 0 [] [],false) ⟨(by dsimp only; simp),⟨(by dsimp only; (intro w hw; cases hw)),⟨(by show (0 : Nat) ≤ r.Views.length; omega),⟨(by dsimp only; (intro w hw; cases hw)),(by dsimp only; trivial)⟩⟩⟩⟩)
   (fun _h13 => ?_))))))))))))))))))
  refine SatE.pLoop 5 (St.mk [(1,.int .i64 to),(2,.int .i64 batch),(3,.ref (.head 3 0) 0 0),(6,.ref (.head 6 0) 0 0),(8,.ref
   (.head 8 0) 0 0),(9,.int .i64 0)] [(.head 3 0,.box (encRepl r) true),(.head 6 0,.box (.agg [.int .i64 0,.int .i64 0,.nils,.nils]) true),(.head 8 0,.box
   (.agg [.int .i64 r.ID,.int .i64 to,.nils,.nils]) true)]) (by kernel_rfl) (fun (i : Nat) => ⟨[(1,.int .i64 to),(2,.int .i64 batch),(3,.ref (.head 3 0) 0 0),(6,.ref (.head 6 0) 0 0),(8,.ref
   (.head 8 0) 0 0),(9,.int .i64 i)],[(.head 3 0,.box (encRepl r) true),(.head 6 0,.box (.agg [.int .i64 0,.int .i64 0,.nils,.nils]) true),(.head 8 0,.box
   (.agg [.int .i64 r.ID,.int .i64 to,.nils,.nils]) true)]⟩) (fun i => i ≤ r.Views.length ∧ ∀ w ∈ r.Views.take i,¬ 0 < w.Rev) (fun i => r.Views.length - i) 0 rfl ?_ ?_
  · simp
  · intro i hI again
    have hi := hI.1
    have hn := hI.2
    clear hI
    refine (.kl encView r.Views i (fun _h19 => .T (.em encView r.Views i ‹_› (fun _x20 _hx21 => have _hc22 := (hw _x20 (List.mem_of_getElem? _hx21)); .i (0 < _x20.Rev) (fun _h23 => .T (.eh encView _hx21
     (.T (have _w24 := wI64' ((↑i : Int) + (1 : Int)); ?_)))) (fun _h23 => have _w25 := wI64' ((↑i : Int) + (1 : Int)); .A (St.mk [(1,.int .i64 to),(2,.int .i64 batch),(3,.ref
     (.head 3 0) 0 0),(6,.ref (.head 6 0) 0 0),(8,.ref (.head 8 0) 0 0),(9,.int .i64 (IntKind.i64.wrap ((↑i : Int) + 1)))] [(.head 3 0,.box (encRepl r) true),(.head 6 0,.box
     (.agg [.int .i64 0,.int .i64 0,.nils,.nils]) true),(.head 8 0,.box
     (.agg [.int .i64 r.ID,.int .i64 to,.nils,.nils]) true)]) (by simp [encRepl,_w25]) (again (i + (1 : Nat)) ⟨(by omega),(by (clear again; (intro x hx; rw [take_succ ‹_›] at hx; rcases List.mem_append.1 hx with h | h; exact hn x h; simp only [List.mem_singleton] at h; subst h; omega)))⟩ (by omega))))))
     (fun _h19 => have _w26 := wI64' (to - (1 : Int)); .k (0 ≤ IntKind.i64.wrap (to - 1)) (0 ≤ to - 1) (by simp only [_w26])
     (fun _h27 => .eM encView r.Views ((IntKind.i64.wrap (to - 1)).toNat) ((to - 1).toNat) (by simp only [_w26]) (by omega) (fun _x28 _hx29 => have _hc30 := (hw _x28 (List.mem_of_getElem? _hx29)); ?_))
     (fun _h27 => False.elim (by omega))))
    · refine SatE.pLoop 5 (St.mk [(1,.int .i64 to),(2,.int .i64 batch),(3,.ref (.head 3 0) 0 0),(6,.ref (.head 6 0) 0 0),(8,.ref
       (.head 8 0) 0 0),(9,.int .i64 (IntKind.i64.wrap ((↑i : Int) + 1)))] [(.head 3 0,.box (encRepl r) true),(.head 6 0,.box (.agg [.int .i64 0,.int .i64 0,.nils,.nils]) true),(.head 8 0,.box
       (.agg [.int .i64 r.ID,.int .i64 to,.sref (.head 8 1) 0 1,.nils]) true),
       (.head 8 1,.row 5 [encView _x20] true true)]) (by kernel_rfl) (fun (p : Nat × List View) => ⟨[(1,.int .i64 to),(2,.int .i64 batch),(3,.ref (.head 3 0) 0 0),(6,.ref (.head 6 0) 0 0),(8,.ref
       (.head 8 0) 0 0),(9,.int .i64 p.1)],[(.head 3 0,.box (encRepl r) true),(.head 6 0,.box (.agg [.int .i64 0,.int .i64 0,.nils,.nils]) true),(.head 8 0,.box
       (.agg [.int .i64 r.ID,.int .i64 to,.sref (.head 8 1) 0 p.2.length,.nils]) true),
       (.head 8 1,.row 5 (p.2.map encView) true true)]⟩) (fun p => p.1 ≤ r.Views.length ∧ (∀ w ∈ p.2,w ∈ r.Views) ∧ p.2.length ≤ p.1) (fun p => r.Views.length - p.1) (i + 1,[_x20]) (by (simp [encView,encRepl, *]; done)) ?_ ?_
      · exact ⟨by dsimp only; omega,by intro w h; simp only [List.mem_singleton] at h; subst h; exact List.mem_of_getElem? _hx21,by simp⟩
      · rintro ⟨j,vs⟩ hJ again2
        obtain ⟨j1,j2,j3⟩ := hJ
        simp only at j1 j2 j3
        refine (.kl encView r.Views j (fun _h32 => .T (.em encView r.Views j ‹_› (fun _x33 _hx34 => have _hc35 := (hw _x33 (List.mem_of_getElem? _hx34)); .i (0 < _x33.Rev) (fun _h36 => .T (.eh encView _hx34
         (.i ((vs.length + 1) * (80 : Nat) ≤ 140737488355328) (fun _h37 => .k (vs.length = (List.map encView vs).length) (True) (by simp only [List.length_map])
         (fun _h38 => have _w39 := wI64' ((↑j : Int) + (1 : Int)); .A (St.mk [(1,.int .i64 to),(2,.int .i64 batch),(3,.ref (.head 3 0) 0 0),(6,.ref (.head 6 0) 0 0),(8,.ref
         (.head 8 0) 0 0),(9,.int .i64 (IntKind.i64.wrap ((↑j : Int) + 1)))] [(.head 3 0,.box (encRepl r) true),(.head 6 0,.box (.agg [.int .i64 0,.int .i64 0,.nils,.nils]) true),(.head 8 0,.box
         (.agg [.int .i64 r.ID,.int .i64 to,.sref (.head 8 1) 0 (vs.length + 1),.nils]) true),
         (.head 8 1,.row 5 (List.map encView vs ++ [encView _x33]) true true)]) (by simp [encRepl,_w39]) (again2 ((j + (1 : Nat),vs ++ [_x33])) ⟨(by dsimp only; omega),⟨(by dsimp only; (clear again again2; (intro w h; rcases List.mem_append.1 h with h | h; exact j2 w h; simp only [List.mem_singleton] at h; subst h; exact List.mem_of_getElem? ‹_›))),(by dsimp only; (clear again again2; (simp; omega)))⟩⟩ (by dsimp only; omega)))
         (fun _h38 => (_h38 trivial).elim)) (fun _h37 => False.elim (by omega))))) (fun _h36 => have _w40 := wI64' ((↑j : Int) + (1 : Int)); .A (St.mk [(1,.int .i64 to),(2,.int .i64 batch),(3,.ref
         (.head 3 0) 0 0),(6,.ref (.head 6 0) 0 0),(8,.ref (.head 8 0) 0 0),(9,.int .i64 (IntKind.i64.wrap ((↑j : Int) + 1)))] [(.head 3 0,.box (encRepl r) true),(.head 6 0,.box
         (.agg [.int .i64 0,.int .i64 0,.nils,.nils]) true),(.head 8 0,.box (.agg [.int .i64 r.ID,.int .i64 to,.sref (.head 8 1) 0 vs.length,.nils]) true),
         (.head 8 1,.row 5 (List.map encView vs) true true)]) (by simp [encRepl,_w40]) (again2 ((j + (1 : Nat),vs)) ⟨(by dsimp only; omega),⟨(by dsimp only; omega),(by dsimp only; omega)⟩⟩ (by dsimp only; omega))))))
         (fun _h32 => have _w41 := wI64' (to - (1 : Int)); .k (0 ≤ IntKind.i64.wrap (to - 1)) (0 ≤ to - 1) (by simp only [_w41])
         (fun _h42 => .eM encView r.Views ((IntKind.i64.wrap (to - 1)).toNat) ((to - 1).toNat) (by simp only [_w41]) (by omega) (fun _x43 _hx44 => have _hc45 := (hw _x43 (List.mem_of_getElem? _hx44)); ?_))
         (fun _h42 => False.elim (by omega))))
        refine SatE.pUnroll 11 (St.mk [(2,.int .i64 batch),(3,.ref (.head 3 0) 0 0),(6,.ref (.head 6 0) 0 0),(8,.ref (.head 8 0) 0 0),(10,.tree (List.map encHead _x43.Seen)),(11,.ref
         (.head 11 0) 0 0)] [(.head 3 0,.box (encRepl r) true),(.head 6 0,.box (.agg [.int .i64 0,.int .i64 0,.nils,.nils]) true),(.head 8 0,.box (.agg [.int .i64 r.ID,.int .i64 to,.sref
         (.head 8 1) 0 vs.length,.nils]) true),(.head 8 1,.row 5 (List.map encView vs) true true),(.head 11 0,.box (.agg [.int .i64 0,.int .i64 0,.int .i64 0]) true)]) (by kernel_rfl) ?_
        refine (.i (0 < batch) (fun _h38 => ?_) (fun _h38 => False.elim (by omega)))
        refine SatE.pLoop 14 (St.mk [(2,.int .i64 batch),(3,.ref (.head 3 0) 0 0),(6,.ref (.head 6 0) 0 0),(8,.ref (.head 8 0) 0 0),(10,.tree (List.map encHead _x43.Seen)),(11,.ref
         (.head 11 0) 0 0),(12,.ref (.head 12 0) 0 0),(13,.bool false),(14,.int .i64 0)] [(.head 3 0,.box (encRepl r) true),(.head 6 0,.box (.agg [.int .i64 0,.int .i64 0,.nils,.nils]) true),
         (.head 8 0,.box (.agg [.int .i64 r.ID,.int .i64 to,.sref (.head 8 1) 0 vs.length,.nils]) true),(.head 8 1,.row 5 (List.map encView vs) true true),(.head 11 0,.box
         (.agg [.int .i64 0,.int .i64 0,.int .i64 0]) true),(.head 12 0,.box
         (.agg [.int .i64 0,.int .i64 0,.int .i64 0,.int .i64 0,.bool false,.nils,.str [],.str []]) true)]) (by kernel_rfl) (fun (k : Nat) => ⟨[(2,.int .i64 batch),(3,.ref (.head 3 0) 0 0),(6,.ref
         (.head 6 0) 0 0),(8,.ref (.head 8 0) 0 0),(10,.tree (_x43.Seen.map encHead)),(11,.ref (.head 11 0) 0 0),(12,.ref
         (.head 12 0) 0 0),(13,.bool false),(14,.int .i64 k)],[(.head 3 0,.box (encRepl r) true),(.head 6 0,.box (.agg [.int .i64 0,.int .i64 0,.nils,.nils]) true),(.head 8 0,.box
         (.agg [.int .i64 r.ID,.int .i64 to,.sref (.head 8 1) 0 vs.length,.nils]) true),(.head 8 1,.row 5 (vs.map encView) true true),(.head 11 0,.box
         (.agg [.int .i64 0,.int .i64 0,.int .i64 0]) true),(.head 12 0,.box
         (.agg [.int .i64 0,.int .i64 0,.int .i64 0,.int .i64 0,.bool false,.nils,.str [],.str []]) true)]⟩) (fun k => k ≤ r.Held.length) (fun k => r.Held.length - k) 0 rfl ?_ ?_
        · simp
        · intro k hk againA
          refine (.kl encVersion r.Held k (fun _h43 => .T (.em encVersion r.Held k ‹_› (fun _x44 _hx45 => .c (@Tryz.c33 (_x43.Seen) (_x44.Item) ‹_›) (.c (@Tryz.c32 (_x44.S) (headAt _x43.Seen _x44.Item))
           (.i (0 < _x44.S.cmp (headAt _x43.Seen _x44.Item)) (fun _h46 => .it _h46 (.it _h46 (.it _h46 (.c (@Tryz.c32 (_x44.S) (Stamp.mk (0 : Int) (0 : Int) (0 : Int))) (.it _h46 (.it _h46
           (.i (0 < _x44.S.cmp (Stamp.mk 0 0 0)) (fun _h47 => .it _h47 (.it _h47 (.T (.T (.T (.T (.T (.T (.it _h47 (.T (.it _h47 (.T (have _w48 := wI64' ((↑k : Int) + (1 : Int)); ?_)))))))))))))
           (fun _h47 => .iF _h47 (.iF _h47 (.iF _h47 (.iF _h47 (.F (have _w49 := wI64' ((↑k : Int) + (1 : Int)); .A (St.mk [(2,.int .i64 batch),(3,.ref (.head 3 0) 0 0),(6,.ref (.head 6 0) 0 0),(8,.ref
           (.head 8 0) 0 0),(10,.tree (List.map encHead _x43.Seen)),(11,.ref (.head 11 0) 0 0),(12,.ref
           (.head 12 0) 0 0),(13,.bool false),(14,.int .i64 (IntKind.i64.wrap ((↑k : Int) + 1)))] [(.head 3 0,.box (encRepl r) true),(.head 6 0,.box (.agg [.int .i64 0,.int .i64 0,.nils,.nils]) true),
           (.head 8 0,.box (.agg [.int .i64 r.ID,.int .i64 to,.sref (.head 8 1) 0 vs.length,.nils]) true),(.head 8 1,.row 5 (List.map encView vs) true true),(.head 11 0,.box
           (.agg [.int .i64 0,.int .i64 0,.int .i64 0]) true),(.head 12 0,.box
           (.agg [.int .i64 0,.int .i64 0,.int .i64 0,.int .i64 0,.bool false,.nils,.str [],.str []]) true)]) (by simp [encRepl,_w49]) (againA (k + (1 : Nat)) (by omega) (by omega)))))))))))))))
           (fun _h46 => .iF _h46 (.iF _h46 (.iF _h46 (.iF _h46 (.iF _h46 (.F (.F (.F (.F (.F (.F (have _w50 := wI64' ((↑k : Int) + (1 : Int)); .A (St.mk [(2,.int .i64 batch),(3,.ref (.head 3 0) 0 0),(6,.ref
           (.head 6 0) 0 0),(8,.ref (.head 8 0) 0 0),(10,.tree (List.map encHead _x43.Seen)),(11,.ref (.head 11 0) 0 0),(12,.ref
           (.head 12 0) 0 0),(13,.bool false),(14,.int .i64 (IntKind.i64.wrap ((↑k : Int) + 1)))] [(.head 3 0,.box (encRepl r) true),(.head 6 0,.box (.agg [.int .i64 0,.int .i64 0,.nils,.nils]) true),
           (.head 8 0,.box (.agg [.int .i64 r.ID,.int .i64 to,.sref (.head 8 1) 0 vs.length,.nils]) true),(.head 8 1,.row 5 (List.map encView vs) true true),(.head 11 0,.box
           (.agg [.int .i64 0,.int .i64 0,.int .i64 0]) true),(.head 12 0,.box
           (.agg [.int .i64 0,.int .i64 0,.int .i64 0,.int .i64 0,.bool false,.nils,.str [],.str []]) true)]) (by simp [encRepl,_w50]) (againA (k + (1 : Nat)) (by omega) (by omega)))))))))))))))))))
           (fun _h43 => .T
           (have _w51 : List.take vs.length (List.map encView vs) = List.map encView vs := List.take_of_length_le (by simp); .q (Res.mk (AV.tuple [.agg [.int .i64 r.ID,.int .i64 to,.tree (List.take vs.length (List.map encView vs)),.tree []],.bool true]) [] []) ⟨(Gossip.mk r.ID to vs [],Bool.true),(by simp [encGossip,_w51]),⟨(by dsimp only; omega),⟨(by dsimp only; (clear again again2 againA; trivial)),⟨(by dsimp only; omega),⟨(by dsimp only; simp),(by dsimp only; (clear again again2 againA; trivial))⟩⟩⟩⟩⟩)))
          refine SatE.pLoop 14 (St.mk [(2,.int .i64 batch),(3,.ref (.head 3 0) 0 0),(6,.ref (.head 6 0) 0 0),(8,.ref (.head 8 0) 0 0),(10,.tree (List.map encHead _x43.Seen)),(11,.ref
           (.head 11 0) 0 0),(12,.ref (.head 12 0) 0 0),(13,.bool true),(14,.int .i64 (IntKind.i64.wrap ((↑k : Int) + 1)))] [(.head 3 0,.box (encRepl r) true),(.head 6 0,.box
           (.agg [.int .i64 0,.int .i64 0,.nils,.nils]) true),(.head 8 0,.box (.agg [.int .i64 r.ID,.int .i64 to,.sref (.head 8 1) 0 vs.length,.nils]) true),
           (.head 8 1,.row 5 (List.map encView vs) true true),(.head 11 0,.box (.agg [.int .i64 0,.int .i64 0,.int .i64 0]) true),
           (.head 12 0,.box (encVersion _x44) true)]) (by kernel_rfl) (fun (p : Nat × Version) => ⟨[(2,.int .i64 batch),(3,.ref (.head 3 0) 0 0),(6,.ref (.head 6 0) 0 0),(8,.ref
           (.head 8 0) 0 0),(10,.tree (_x43.Seen.map encHead)),(11,.ref (.head 11 0) 0 0),(12,.ref (.head 12 0) 0 0),(13,.bool true),(14,.int .i64 p.1)],[(.head 3 0,.box (encRepl r) true),
           (.head 6 0,.box (.agg [.int .i64 0,.int .i64 0,.nils,.nils]) true),(.head 8 0,.box (.agg [.int .i64 r.ID,.int .i64 to,.sref (.head 8 1) 0 vs.length,.nils]) true),
           (.head 8 1,.row 5 (vs.map encView) true true),(.head 11 0,.box (.agg [.int .i64 0,.int .i64 0,.int .i64 0]) true),
           (.head 12 0,.box (encVersion p.2) true)]⟩) (fun p => p.1 ≤ r.Held.length ∧ p.2 ∈ r.Held) (fun p => r.Held.length - p.1) (k + 1,_x44) (by (simp [encVersion,encRepl, *]; done)) ?_ ?_
          · exact ⟨by dsimp only; omega,List.mem_of_getElem? (by assumption)⟩
          · rintro ⟨m,best⟩ hM againB
            obtain ⟨m1,m2⟩ := hM
            simp only at m1 m2
            refine (.kl encVersion r.Held m (fun _h54 => .T (.em encVersion r.Held m ‹_› (fun _x55 _hx56 => .c (@Tryz.c33 (_x43.Seen) (_x55.Item) ‹_›) (.c (@Tryz.c32 (_x55.S) (headAt _x43.Seen _x55.Item))
             (.i (0 < _x55.S.cmp (headAt _x43.Seen _x55.Item)) (fun _h57 => .it _h57 (.it _h57 (.it _h57 (.c (@Tryz.c32 (_x55.S) (Stamp.mk (0 : Int) (0 : Int) (0 : Int))) (.it _h57 (.it _h57
             (.i (0 < _x55.S.cmp (Stamp.mk 0 0 0)) (fun _h58 => .it _h58 (.it _h58 (.F (.F (.F (.F (.F (.c (@Tryz.c32 (_x55.S) (best.S)) (.F (.it _h58 (.F (.it _h58 (.i (_x55.S.cmp best.S < 0)
             (fun _h59 => have _w60 := wI64' ((↑m : Int) + (1 : Int)); .A (St.mk [(2,.int .i64 batch),(3,.ref (.head 3 0) 0 0),(6,.ref (.head 6 0) 0 0),(8,.ref
             (.head 8 0) 0 0),(10,.tree (List.map encHead _x43.Seen)),(11,.ref (.head 11 0) 0 0),(12,.ref
             (.head 12 0) 0 0),(13,.bool true),(14,.int .i64 (IntKind.i64.wrap ((↑m : Int) + 1)))] [(.head 3 0,.box (encRepl r) true),(.head 6 0,.box (.agg [.int .i64 0,.int .i64 0,.nils,.nils]) true),
             (.head 8 0,.box (.agg [.int .i64 r.ID,.int .i64 to,.sref (.head 8 1) 0 vs.length,.nils]) true),(.head 8 1,.row 5 (List.map encView vs) true true),(.head 11 0,.box
             (.agg [.int .i64 0,.int .i64 0,.int .i64 0]) true),
             (.head 12 0,.box (encVersion _x55) true)]) (by simp [encVersion,encRepl,_w60]) (againB ((m + (1 : Nat),Version.mk _x55.Item (Stamp.mk _x55.2.L _x55.2.R _x55.2.N) _x55.Dead _x55.Attrs _x55.Tag _x55.Body)) ⟨(by dsimp only; omega),(by dsimp only; (clear again again2 againA againB; (exact List.mem_of_getElem? ‹_›)))⟩ (by dsimp only; omega)))
             (fun _h59 => have _w61 := wI64' ((↑m : Int) + (1 : Int)); .A (St.mk [(2,.int .i64 batch),(3,.ref (.head 3 0) 0 0),(6,.ref (.head 6 0) 0 0),(8,.ref
             (.head 8 0) 0 0),(10,.tree (List.map encHead _x43.Seen)),(11,.ref (.head 11 0) 0 0),(12,.ref
             (.head 12 0) 0 0),(13,.bool true),(14,.int .i64 (IntKind.i64.wrap ((↑m : Int) + 1)))] [(.head 3 0,.box (encRepl r) true),(.head 6 0,.box (.agg [.int .i64 0,.int .i64 0,.nils,.nils]) true),
             (.head 8 0,.box (.agg [.int .i64 r.ID,.int .i64 to,.sref (.head 8 1) 0 vs.length,.nils]) true),(.head 8 1,.row 5 (List.map encView vs) true true),(.head 11 0,.box
             (.agg [.int .i64 0,.int .i64 0,.int .i64 0]) true),
             (.head 12 0,.box (encVersion best) true)]) (by simp [encVersion,encRepl,_w61]) (againB ((m + (1 : Nat),Version.mk best.Item (Stamp.mk best.2.L best.2.R best.2.N) best.Dead best.Attrs best.Tag best.Body)) ⟨(by dsimp only; omega),(by dsimp only; omega)⟩ (by dsimp only; omega))))))))))))))))
             (fun _h58 => .iF _h58 (.iF _h58 (.iF _h58 (.iF _h58 (.F (have _w62 := wI64' ((↑m : Int) + (1 : Int)); .A (St.mk [(2,.int .i64 batch),(3,.ref (.head 3 0) 0 0),(6,.ref (.head 6 0) 0 0),(8,.ref
             (.head 8 0) 0 0),(10,.tree (List.map encHead _x43.Seen)),(11,.ref (.head 11 0) 0 0),(12,.ref
             (.head 12 0) 0 0),(13,.bool true),(14,.int .i64 (IntKind.i64.wrap ((↑m : Int) + 1)))] [(.head 3 0,.box (encRepl r) true),(.head 6 0,.box (.agg [.int .i64 0,.int .i64 0,.nils,.nils]) true),
             (.head 8 0,.box (.agg [.int .i64 r.ID,.int .i64 to,.sref (.head 8 1) 0 vs.length,.nils]) true),(.head 8 1,.row 5 (List.map encView vs) true true),(.head 11 0,.box
             (.agg [.int .i64 0,.int .i64 0,.int .i64 0]) true),
             (.head 12 0,.box (encVersion best) true)]) (by simp [encVersion,encRepl,_w62]) (againB ((m + (1 : Nat),Version.mk best.Item (Stamp.mk best.2.L best.2.R best.2.N) best.Dead best.Attrs best.Tag best.Body)) ⟨(by dsimp only; omega),(by dsimp only; omega)⟩ (by dsimp only; omega)))))))))))))))
             (fun _h57 => .iF _h57 (.iF _h57 (.iF _h57 (.iF _h57 (.iF _h57 (.F (.F (.F (.F (.F (.F (have _w63 := wI64' ((↑m : Int) + (1 : Int)); .A (St.mk [(2,.int .i64 batch),(3,.ref (.head 3 0) 0 0),(6,.ref
             (.head 6 0) 0 0),(8,.ref (.head 8 0) 0 0),(10,.tree (List.map encHead _x43.Seen)),(11,.ref (.head 11 0) 0 0),(12,.ref
             (.head 12 0) 0 0),(13,.bool true),(14,.int .i64 (IntKind.i64.wrap ((↑m : Int) + 1)))] [(.head 3 0,.box (encRepl r) true),(.head 6 0,.box (.agg [.int .i64 0,.int .i64 0,.nils,.nils]) true),
             (.head 8 0,.box (.agg [.int .i64 r.ID,.int .i64 to,.sref (.head 8 1) 0 vs.length,.nils]) true),(.head 8 1,.row 5 (List.map encView vs) true true),(.head 11 0,.box
             (.agg [.int .i64 0,.int .i64 0,.int .i64 0]) true),
             (.head 12 0,.box (encVersion best) true)]) (by simp [encVersion,encRepl,_w63]) (againB ((m + (1 : Nat),Version.mk best.Item (Stamp.mk best.2.L best.2.R best.2.N) best.Dead best.Attrs best.Tag best.Body)) ⟨(by dsimp only; omega),(by dsimp only; omega)⟩ (by dsimp only; omega)))))))))))))))))))
             (fun _h54 => .F (.T ?_)))
            refine SatE.pLoop 11 (St.mk [(2,.int .i64 batch),(3,.ref (.head 3 0) 0 0),(6,.ref (.head 6 0) 0 0),(8,.ref (.head 8 0) 0 0),(10,.tree (List.map encHead _x43.Seen)),(11,.ref
             (.head 11 0) 0 0)] [(.head 3 0,.box (encRepl r) true),(.head 6 0,.box (.agg [.int .i64 0,.int .i64 0,.nils,.nils]) true),(.head 8 0,.box (.agg [.int .i64 r.ID,.int .i64 to,.sref
             (.head 8 1) 0 vs.length,.sref (.head 8 2) 0 1]) true),(.head 8 1,.row 5 (List.map encView vs) true true),(.head 8 2,.row 8 [encVersion best] true true),
             (.head 11 0,.box (encStamp best.S) true)]) (by kernel_rfl) (fun (p : List Version × Stamp) => ⟨[(2,.int .i64 batch),(3,.ref (.head 3 0) 0 0),(6,.ref (.head 6 0) 0 0),(8,.ref
             (.head 8 0) 0 0),(10,.tree (_x43.Seen.map encHead)),(11,.ref (.head 11 0) 0 0)],[(.head 3 0,.box (encRepl r) true),(.head 6 0,.box (.agg [.int .i64 0,.int .i64 0,.nils,.nils]) true),
             (.head 8 0,.box (.agg [.int .i64 r.ID,.int .i64 to,.sref (.head 8 1) 0 vs.length,.sref (.head 8 2) 0 p.1.length]) true),(.head 8 1,.row 5 (vs.map encView) true true),
             (.head 8 2,.row 8 (p.1.map encVersion) true true),(.head 11 0,.box (encStamp p.2) true)]⟩) (fun p => p.1.length ≤ 4 ∧ ∀ v ∈ p.1,v ∈ r.Held) (fun p => 4 - p.1.length) ([best],best.S) rfl ?_ ?_
            · exact ⟨by simp,by intro w h; simp only [List.mem_singleton] at h; subst h; assumption⟩
            · rintro ⟨bs,last⟩ hQ againC
              obtain ⟨q1,q2⟩ := hQ
              simp only at q1 q2
              refine (.i ((↑bs.length : Int) < batch) (fun _h61 => ?_)
               (fun _h61 => have _w62 : List.take vs.length (List.map encView vs) = List.map encView vs := List.take_of_length_le (by simp); have _w63 : List.take bs.length (List.map encVersion bs) = List.map encVersion bs := List.take_of_length_le (by simp); .q (Res.mk (AV.tuple [.agg [.int .i64 r.ID,.int .i64 to,.tree (List.take vs.length (List.map encView vs)),.tree (List.take bs.length (List.map encVersion bs))],.bool true]) [] []) ⟨(Gossip.mk r.ID to vs bs,Bool.true),(by simp [encGossip,_w63,_w62]),⟨(by dsimp only; omega),⟨(by dsimp only; (clear again again2 againA againB againC; trivial)),⟨(by dsimp only; omega),⟨(by dsimp only; (clear again again2 againA againB againC; trivial)),(by dsimp only; (clear again again2 againA againB againC; trivial))⟩⟩⟩⟩⟩))
              refine SatE.pLoop 14 (St.mk [(2,.int .i64 batch),(3,.ref (.head 3 0) 0 0),(6,.ref (.head 6 0) 0 0),(8,.ref (.head 8 0) 0 0),(10,.tree (List.map encHead _x43.Seen)),(11,.ref
               (.head 11 0) 0 0),(12,.ref (.head 12 0) 0 0),(13,.bool false),(14,.int .i64 0)] [(.head 3 0,.box (encRepl r) true),(.head 6 0,.box (.agg [.int .i64 0,.int .i64 0,.nils,.nils]) true),
               (.head 8 0,.box (.agg [.int .i64 r.ID,.int .i64 to,.sref (.head 8 1) 0 vs.length,.sref (.head 8 2) 0 bs.length]) true),(.head 8 1,.row 5 (List.map encView vs) true true),
               (.head 8 2,.row 8 (List.map encVersion bs) true true),(.head 11 0,.box (encStamp last) true),(.head 12 0,.box
               (.agg [.int .i64 0,.int .i64 0,.int .i64 0,.int .i64 0,.bool false,.nils,.str [],.str []]) true)]) (by kernel_rfl) (fun (k : Nat) => ⟨[(2,.int .i64 batch),(3,.ref (.head 3 0) 0 0),(6,.ref
               (.head 6 0) 0 0),(8,.ref (.head 8 0) 0 0),(10,.tree (_x43.Seen.map encHead)),(11,.ref (.head 11 0) 0 0),(12,.ref
               (.head 12 0) 0 0),(13,.bool false),(14,.int .i64 k)],[(.head 3 0,.box (encRepl r) true),(.head 6 0,.box (.agg [.int .i64 0,.int .i64 0,.nils,.nils]) true),(.head 8 0,.box
               (.agg [.int .i64 r.ID,.int .i64 to,.sref (.head 8 1) 0 vs.length,.sref (.head 8 2) 0 bs.length]) true),(.head 8 1,.row 5 (vs.map encView) true true),
               (.head 8 2,.row 8 (bs.map encVersion) true true),(.head 11 0,.box (encStamp last) true),(.head 12 0,.box
               (.agg [.int .i64 0,.int .i64 0,.int .i64 0,.int .i64 0,.bool false,.nils,.str [],.str []]) true)]⟩) (fun k => k ≤ r.Held.length) (fun k => r.Held.length - k) 0 rfl ?_ ?_
              · simp
              · intro k hk againA
                refine (.kl encVersion r.Held k (fun _h65 => .T (.em encVersion r.Held k ‹_› (fun _x66 _hx67 => .c (@Tryz.c33 (_x43.Seen) (_x66.Item) ‹_›) (.c (@Tryz.c32 (_x66.S) (headAt _x43.Seen _x66.Item))
                 (.i (0 < _x66.S.cmp (headAt _x43.Seen _x66.Item)) (fun _h68 => .it _h68 (.it _h68 (.it _h68 (.c (@Tryz.c32 (_x66.S) (last)) (.it _h68 (.it _h68 (.i (0 < _x66.S.cmp last) (fun _h69 => .it _h69 (.it _h69
                 (.T (.T (.T (.T (.T (.T (.it _h69 (.T (.it _h69 (.T (have _w70 := wI64' ((↑k : Int) + (1 : Int)); ?_))))))))))))) (fun _h69 => .iF _h69 (.iF _h69 (.iF _h69 (.iF _h69 (.F
                 (have _w71 := wI64' ((↑k : Int) + (1 : Int)); .A (St.mk [(2,.int .i64 batch),(3,.ref (.head 3 0) 0 0),(6,.ref (.head 6 0) 0 0),(8,.ref
                 (.head 8 0) 0 0),(10,.tree (List.map encHead _x43.Seen)),(11,.ref (.head 11 0) 0 0),(12,.ref
                 (.head 12 0) 0 0),(13,.bool false),(14,.int .i64 (IntKind.i64.wrap ((↑k : Int) + 1)))] [(.head 3 0,.box (encRepl r) true),(.head 6 0,.box (.agg [.int .i64 0,.int .i64 0,.nils,.nils]) true),
                 (.head 8 0,.box (.agg [.int .i64 r.ID,.int .i64 to,.sref (.head 8 1) 0 vs.length,.sref (.head 8 2) 0 bs.length]) true),(.head 8 1,.row 5 (List.map encView vs) true true),
                 (.head 8 2,.row 8 (List.map encVersion bs) true true),(.head 11 0,.box (encStamp last) true),(.head 12 0,.box
                 (.agg [.int .i64 0,.int .i64 0,.int .i64 0,.int .i64 0,.bool false,.nils,.str [],.str []]) true)]) (by simp [encStamp,encRepl,_w71]) (againA (k + (1 : Nat)) (by omega) (by omega)))))))))))))))
                 (fun _h68 => .iF _h68 (.iF _h68 (.iF _h68 (.iF _h68 (.iF _h68 (.F (.F (.F (.F (.F (.F (have _w72 := wI64' ((↑k : Int) + (1 : Int)); .A (St.mk [(2,.int .i64 batch),(3,.ref (.head 3 0) 0 0),(6,.ref
                 (.head 6 0) 0 0),(8,.ref (.head 8 0) 0 0),(10,.tree (List.map encHead _x43.Seen)),(11,.ref (.head 11 0) 0 0),(12,.ref
                 (.head 12 0) 0 0),(13,.bool false),(14,.int .i64 (IntKind.i64.wrap ((↑k : Int) + 1)))] [(.head 3 0,.box (encRepl r) true),(.head 6 0,.box (.agg [.int .i64 0,.int .i64 0,.nils,.nils]) true),
                 (.head 8 0,.box (.agg [.int .i64 r.ID,.int .i64 to,.sref (.head 8 1) 0 vs.length,.sref (.head 8 2) 0 bs.length]) true),(.head 8 1,.row 5 (List.map encView vs) true true),
                 (.head 8 2,.row 8 (List.map encVersion bs) true true),(.head 11 0,.box (encStamp last) true),(.head 12 0,.box
                 (.agg [.int .i64 0,.int .i64 0,.int .i64 0,.int .i64 0,.bool false,.nils,.str [],.str []]) true)]) (by simp [encStamp,encRepl,_w72]) (againA (k + (1 : Nat)) (by omega) (by omega)))))))))))))))))))
                 (fun _h65 => .T
                 (have _w73 : List.take vs.length (List.map encView vs) = List.map encView vs := List.take_of_length_le (by simp); have _w74 : List.take bs.length (List.map encVersion bs) = List.map encVersion bs := List.take_of_length_le (by simp); .q (Res.mk (AV.tuple [.agg [.int .i64 r.ID,.int .i64 to,.tree (List.take vs.length (List.map encView vs)),.tree (List.take bs.length (List.map encVersion bs))],.bool true]) [] []) ⟨(Gossip.mk r.ID to vs bs,Bool.true),(by simp [encGossip,_w74,_w73]),⟨(by dsimp only; omega),⟨(by dsimp only; (clear again again2 againA againB againC; trivial)),⟨(by dsimp only; omega),⟨(by dsimp only; (clear again again2 againA againB againC; trivial)),(by dsimp only; (clear again again2 againA againB againC; trivial))⟩⟩⟩⟩⟩)))
                refine SatE.pLoop 14 (St.mk [(2,.int .i64 batch),(3,.ref (.head 3 0) 0 0),(6,.ref (.head 6 0) 0 0),(8,.ref (.head 8 0) 0 0),(10,.tree (List.map encHead _x43.Seen)),(11,.ref
                 (.head 11 0) 0 0),(12,.ref (.head 12 0) 0 0),(13,.bool true),(14,.int .i64 (IntKind.i64.wrap ((↑k : Int) + 1)))] [(.head 3 0,.box (encRepl r) true),(.head 6 0,.box
                 (.agg [.int .i64 0,.int .i64 0,.nils,.nils]) true),(.head 8 0,.box (.agg [.int .i64 r.ID,.int .i64 to,.sref (.head 8 1) 0 vs.length,.sref (.head 8 2) 0 bs.length]) true),
                 (.head 8 1,.row 5 (List.map encView vs) true true),(.head 8 2,.row 8 (List.map encVersion bs) true true),(.head 11 0,.box (encStamp last) true),
                 (.head 12 0,.box (encVersion _x66) true)]) (by kernel_rfl) (fun (p : Nat × Version) => ⟨[(2,.int .i64 batch),(3,.ref (.head 3 0) 0 0),(6,.ref (.head 6 0) 0 0),(8,.ref
                 (.head 8 0) 0 0),(10,.tree (_x43.Seen.map encHead)),(11,.ref (.head 11 0) 0 0),(12,.ref (.head 12 0) 0 0),(13,.bool true),(14,.int .i64 p.1)],[(.head 3 0,.box (encRepl r) true),
                 (.head 6 0,.box (.agg [.int .i64 0,.int .i64 0,.nils,.nils]) true),(.head 8 0,.box (.agg [.int .i64 r.ID,.int .i64 to,.sref (.head 8 1) 0 vs.length,.sref (.head 8 2) 0 bs.length]) true),
                 (.head 8 1,.row 5 (vs.map encView) true true),(.head 8 2,.row 8 (bs.map encVersion) true true),(.head 11 0,.box (encStamp last) true),
                 (.head 12 0,.box (encVersion p.2) true)]⟩) (fun p => p.1 ≤ r.Held.length ∧ p.2 ∈ r.Held) (fun p => r.Held.length - p.1) (k + 1,_x66) (by (simp [encVersion,encRepl,encStamp, *]; done)) ?_ ?_
                · exact ⟨by dsimp only; omega,List.mem_of_getElem? (by assumption)⟩
                · rintro ⟨m,best⟩ hM againB
                  obtain ⟨m1,m2⟩ := hM
                  simp only at m1 m2
                  refine (.kl encVersion r.Held m (fun _h77 => .T (.em encVersion r.Held m ‹_› (fun _x78 _hx79 => .c (@Tryz.c33 (_x43.Seen) (_x78.Item) ‹_›) (.c (@Tryz.c32 (_x78.S) (headAt _x43.Seen _x78.Item))
                   (.i (0 < _x78.S.cmp (headAt _x43.Seen _x78.Item)) (fun _h80 => .it _h80 (.it _h80 (.it _h80 (.c (@Tryz.c32 (_x78.S) (last)) (.it _h80 (.it _h80 (.i (0 < _x78.S.cmp last) (fun _h81 => .it _h81 (.it _h81
                   (.F (.F (.F (.F (.F (.c (@Tryz.c32 (_x78.S) (best.S)) (.F (.it _h81 (.F (.it _h81 (.i (_x78.S.cmp best.S < 0)
                   (fun _h82 => have _w83 := wI64' ((↑m : Int) + (1 : Int)); .A (St.mk [(2,.int .i64 batch),(3,.ref (.head 3 0) 0 0),(6,.ref (.head 6 0) 0 0),(8,.ref
                   (.head 8 0) 0 0),(10,.tree (List.map encHead _x43.Seen)),(11,.ref (.head 11 0) 0 0),(12,.ref
                   (.head 12 0) 0 0),(13,.bool true),(14,.int .i64 (IntKind.i64.wrap ((↑m : Int) + 1)))] [(.head 3 0,.box (encRepl r) true),(.head 6 0,.box (.agg [.int .i64 0,.int .i64 0,.nils,.nils]) true),
                   (.head 8 0,.box (.agg [.int .i64 r.ID,.int .i64 to,.sref (.head 8 1) 0 vs.length,.sref (.head 8 2) 0 bs.length]) true),(.head 8 1,.row 5 (List.map encView vs) true true),
                   (.head 8 2,.row 8 (List.map encVersion bs) true true),(.head 11 0,.box (encStamp last) true),
                   (.head 12 0,.box (encVersion _x78) true)]) (by simp [encStamp,encVersion,encRepl,_w83]) (againB ((m + (1 : Nat),Version.mk _x78.Item (Stamp.mk _x78.2.L _x78.2.R _x78.2.N) _x78.Dead _x78.Attrs _x78.Tag _x78.Body)) ⟨(by dsimp only; omega),(by dsimp only; (clear again again2 againA againB againC; (exact List.mem_of_getElem? ‹_›)))⟩ (by dsimp only; omega)))
                   (fun _h82 => have _w84 := wI64' ((↑m : Int) + (1 : Int)); .A (St.mk [(2,.int .i64 batch),(3,.ref (.head 3 0) 0 0),(6,.ref (.head 6 0) 0 0),(8,.ref
                   (.head 8 0) 0 0),(10,.tree (List.map encHead _x43.Seen)),(11,.ref (.head 11 0) 0 0),(12,.ref
                   (.head 12 0) 0 0),(13,.bool true),(14,.int .i64 (IntKind.i64.wrap ((↑m : Int) + 1)))] [(.head 3 0,.box (encRepl r) true),(.head 6 0,.box (.agg [.int .i64 0,.int .i64 0,.nils,.nils]) true),
                   (.head 8 0,.box (.agg [.int .i64 r.ID,.int .i64 to,.sref (.head 8 1) 0 vs.length,.sref (.head 8 2) 0 bs.length]) true),(.head 8 1,.row 5 (List.map encView vs) true true),
                   (.head 8 2,.row 8 (List.map encVersion bs) true true),(.head 11 0,.box (encStamp last) true),
                   (.head 12 0,.box (encVersion best) true)]) (by simp [encStamp,encVersion,encRepl,_w84]) (againB ((m + (1 : Nat),Version.mk best.Item (Stamp.mk best.2.L best.2.R best.2.N) best.Dead best.Attrs best.Tag best.Body)) ⟨(by dsimp only; omega),(by dsimp only; omega)⟩ (by dsimp only; omega))))))))))))))))
                   (fun _h81 => .iF _h81 (.iF _h81 (.iF _h81 (.iF _h81 (.F (have _w85 := wI64' ((↑m : Int) + (1 : Int)); .A (St.mk [(2,.int .i64 batch),(3,.ref (.head 3 0) 0 0),(6,.ref (.head 6 0) 0 0),(8,.ref
                   (.head 8 0) 0 0),(10,.tree (List.map encHead _x43.Seen)),(11,.ref (.head 11 0) 0 0),(12,.ref
                   (.head 12 0) 0 0),(13,.bool true),(14,.int .i64 (IntKind.i64.wrap ((↑m : Int) + 1)))] [(.head 3 0,.box (encRepl r) true),(.head 6 0,.box (.agg [.int .i64 0,.int .i64 0,.nils,.nils]) true),
                   (.head 8 0,.box (.agg [.int .i64 r.ID,.int .i64 to,.sref (.head 8 1) 0 vs.length,.sref (.head 8 2) 0 bs.length]) true),(.head 8 1,.row 5 (List.map encView vs) true true),
                   (.head 8 2,.row 8 (List.map encVersion bs) true true),(.head 11 0,.box (encStamp last) true),
                   (.head 12 0,.box (encVersion best) true)]) (by simp [encStamp,encVersion,encRepl,_w85]) (againB ((m + (1 : Nat),Version.mk best.Item (Stamp.mk best.2.L best.2.R best.2.N) best.Dead best.Attrs best.Tag best.Body)) ⟨(by dsimp only; omega),(by dsimp only; omega)⟩ (by dsimp only; omega)))))))))))))))
                   (fun _h80 => .iF _h80 (.iF _h80 (.iF _h80 (.iF _h80 (.iF _h80 (.F (.F (.F (.F (.F (.F (have _w86 := wI64' ((↑m : Int) + (1 : Int)); .A (St.mk [(2,.int .i64 batch),(3,.ref (.head 3 0) 0 0),(6,.ref
                   (.head 6 0) 0 0),(8,.ref (.head 8 0) 0 0),(10,.tree (List.map encHead _x43.Seen)),(11,.ref (.head 11 0) 0 0),(12,.ref
                   (.head 12 0) 0 0),(13,.bool true),(14,.int .i64 (IntKind.i64.wrap ((↑m : Int) + 1)))] [(.head 3 0,.box (encRepl r) true),(.head 6 0,.box (.agg [.int .i64 0,.int .i64 0,.nils,.nils]) true),
                   (.head 8 0,.box (.agg [.int .i64 r.ID,.int .i64 to,.sref (.head 8 1) 0 vs.length,.sref (.head 8 2) 0 bs.length]) true),(.head 8 1,.row 5 (List.map encView vs) true true),
                   (.head 8 2,.row 8 (List.map encVersion bs) true true),(.head 11 0,.box (encStamp last) true),
                   (.head 12 0,.box (encVersion best) true)]) (by simp [encStamp,encVersion,encRepl,_w86]) (againB ((m + (1 : Nat),Version.mk best.Item (Stamp.mk best.2.L best.2.R best.2.N) best.Dead best.Attrs best.Tag best.Body)) ⟨(by dsimp only; omega),(by dsimp only; omega)⟩ (by dsimp only; omega)))))))))))))))))))
                   (fun _h77 => .F (.i ((bs.length + 1) * (96 : Nat) ≤ 140737488355328) (fun _h87 => .k (bs.length = (List.map encVersion bs).length) (True) (by simp only [List.length_map])
                   (fun _h88 => .A (St.mk [(2,.int .i64 batch),(3,.ref (.head 3 0) 0 0),(6,.ref (.head 6 0) 0 0),(8,.ref (.head 8 0) 0 0),(10,.tree (List.map encHead _x43.Seen)),(11,.ref
                   (.head 11 0) 0 0)] [(.head 3 0,.box (encRepl r) true),(.head 6 0,.box (.agg [.int .i64 0,.int .i64 0,.nils,.nils]) true),(.head 8 0,.box (.agg [.int .i64 r.ID,.int .i64 to,.sref
                   (.head 8 1) 0 vs.length,.sref (.head 8 2) 0 (bs.length + 1)]) true),(.head 8 1,.row 5 (List.map encView vs) true true),(.head 8 2,.row 8 (List.map encVersion bs ++ [encVersion best]) true true),
                   (.head 11 0,.box (encStamp best.S) true)]) (by simp [encStamp,encRepl]) (againC ((bs ++ [best],Stamp.mk best.2.L best.2.R best.2.N)) ⟨(by dsimp only; (clear again again2 againA againB againC; (simp; omega))),(by dsimp only; (clear again again2 againA againB againC; (intro w h; rcases List.mem_append.1 h with h | h; exact q2 w h; simp only [List.mem_singleton] at h; subst h; assumption)))⟩ (by dsimp only; (clear again again2 againA againB againC; (simp; omega)))))
                   (fun _h88 => (_h88 trivial).elim)) (fun _h87 => False.elim (by omega)))))
    · exfalso
      obtain ⟨w,hw1,hw2⟩ := hr
      exact hn w (by rw [List.take_of_length_le (by omega)]; exact hw1) hw2
end Go.Ab.Tryz
