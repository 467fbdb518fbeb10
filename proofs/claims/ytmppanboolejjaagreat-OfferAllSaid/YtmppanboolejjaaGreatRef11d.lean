/- Package cardamomref11: what need not be held, what may be told, as plain Lean. -/
import Derived.Test.YtmppanboolejjaaGreatRef11c
namespace Go.Ab.Tryz
open Go
set_option maxRecDepth 100000
set_option maxHeartbeats 4000000
theorem filter_at {T : Type} {l : List T} {k : Nat} {x : T} {f : T → Bool} (h : l[k]? = some x) (hf : f x = true) : (l.take (k + 1)).filter f = (l.take k).filter f ++ [x] := by
  rw [take_succ h,List.filter_append]; simp [hf]
theorem filter_no {T : Type} {l : List T} {k : Nat} {x : T} {f : T → Bool} (h : l[k]? = some x) (hf : f x = false) : (l.take (k + 1)).filter f = (l.take k).filter f := by
  rw [take_succ h,List.filter_append]; simp [hf]
theorem c97 (r : Repl) (h0 : 0 ≤ r.Size) (h1 : r.Size ≤ 100) (hl : r.Views.length ≤ 1000) (hw : ∀ w ∈ r.Views,w.Seen.length ≤ 100000 ∧ w.Filter.length ≤ 100000) (ho : (ownOf r.ID r.Views).Filter.length ≤ 100000) (hh : r.Held.length ≤ 1000) (hv : ∀ v ∈ r.Held,v.Attrs.length ≤ 100000 ∧ v.Tag.length ≤ 100000) : X.call 97 [encRepl r] [] ⟨encRepl (r.sweep parse),[],[]⟩ := by
  have p1 := parse_ok (ownOf r.ID r.Views).Filter
  have p2 := parse_short (ownOf r.ID r.Views).Filter
  refine spec_of ok Go.Proofs.Tryz.func97 ok97 ?_
  refine (.c (@Tryz.c93 (r) ‹_› ‹_›) ?_)
  refine Sat.pLoop 4 (St.mk [(1,.ref (.head 1 0) 0 0),(2,.ref (.head 2 0) 0 0),(3,.ref (.head 3 0) 0 0),(4,.sref (.head 4 0) 0 0),(5,.int .i64 0)] [(.head 1 0,.box (encRepl r) true),
   (.head 2 0,.box (.agg [.int .i64 0,.int .i64 0,.int .i64 0,.int .i64 0,.int .i64 0,.nils,.nils]) true),(.head 3 0,.box (encFlt (Repl.flt parse r)) true),
   (.head 4 0,.row 8 [] true true)]) (by kernel_rfl) (fun (p : Nat × List Version) => ⟨[(1,.ref (.head 1 0) 0 0),(2,.ref (.head 2 0) 0 0),(3,.ref (.head 3 0) 0 0),(4,.sref
   (.head 4 0) 0 p.2.length),(5,.int .i64 p.1)],[(.head 1 0,.box (encRepl r) true),(.head 2 0,.box (.agg [.int .i64 0,.int .i64 0,.int .i64 0,.int .i64 0,.int .i64 0,.nils,.nils]) true),
   (.head 3 0,.box (encFlt (r.flt parse)) true),
   (.head 4 0,.row 8 (p.2.map encVersion) true true)]⟩) (fun p => p.1 ≤ r.Held.length ∧ p.2.length ≤ p.1 ∧ p.2 = (r.Held.take p.1).filter fun v => (r.flt parse).lets v || !r.known parse v) (fun p => r.Held.length - p.1) (0,[]) rfl ?_ ?_
  · exact ⟨by simp,by simp,by simp⟩
  · rintro ⟨k,acc⟩ hI again
    obtain ⟨hk,ha,hs⟩ := hI
    simp only at hk ha hs
    refine (.kl encVersion r.Held k (fun _h18 => .T (.em encVersion r.Held k ‹_›
     (fun _x19 _hx20 => have _hc21 := (hv _x19 (List.mem_of_getElem? _hx20)).1; have _hc22 := (hv _x19 (List.mem_of_getElem? _hx20)).2; .c (@Tryz.c94 (_x19) ‹_› ‹_› (Repl.flt parse r) ‹_› ‹_›)
     (.n (Flt.lets _x19 (Repl.flt parse r)) (fun _h23 => .t _h23 (.t _h23 (.t _h23 (.t _h23 (.t _h23 (.t _h23 (.t _h23 (.t _h23 (.T (.T (.eh encVersion _hx20
     (.i ((acc.length + 1) * (96 : Nat) ≤ 140737488355328) (fun _h24 => .k (acc.length = (List.map encVersion acc).length) (True) (by simp only [List.length_map])
     (fun _h25 => have _w26 := wI64' ((↑k : Int) + (1 : Int)); .A (St.mk [(1,.ref (.head 1 0) 0 0),(2,.ref (.head 2 0) 0 0),(3,.ref (.head 3 0) 0 0),(4,.sref
     (.head 4 0) 0 (acc.length + 1)),(5,.int .i64 (IntKind.i64.wrap ((↑k : Int) + 1)))] [(.head 1 0,.box (encRepl r) true),(.head 2 0,.box
     (.agg [.int .i64 0,.int .i64 0,.int .i64 0,.int .i64 0,.int .i64 0,.nils,.nils]) true),(.head 3 0,.box (encFlt (Repl.flt parse r)) true),
     (.head 4 0,.row 8 (List.map encVersion acc ++ [encVersion _x19]) true true)]) (by simp [encFlt,encRepl,_w26]) (again ((k + (1 : Nat),acc ++ [_x19])) ⟨(by dsimp only; omega),⟨(by dsimp only; (clear again; (simp; omega))),(by dsimp only; (clear again; (rw [filter_at ‹_› (by simp [*]),← hs])))⟩⟩ (by dsimp only; omega)))
     (fun _h25 => (_h25 trivial).elim)) (fun _h24 => False.elim (by omega)))))))))))))) (fun _h23 => .f _h23 (.f _h23 (.f _h23 (.f _h23 (.T (.eh encVersion _hx20 (.f _h23 (.f _h23
     (.c (@Tryz.c125 (r) (_x19) ‹_› ‹_› ‹_› ‹_› ‹_› ‹_›) (.f _h23 (.f _h23 (.m (Repl.known parse r _x19) (fun _h27 => .T (.eh encVersion _hx20 (.i ((acc.length + 1) * (96 : Nat) ≤ 140737488355328)
     (fun _h28 => .k (acc.length = (List.map encVersion acc).length) (True) (by simp only [List.length_map]) (fun _h29 => have _w30 := wI64' ((↑k : Int) + (1 : Int)); .A (St.mk [(1,.ref
     (.head 1 0) 0 0),(2,.ref (.head 2 0) 0 0),(3,.ref (.head 3 0) 0 0),(4,.sref
     (.head 4 0) 0 (acc.length + 1)),(5,.int .i64 (IntKind.i64.wrap ((↑k : Int) + 1)))] [(.head 1 0,.box (encRepl r) true),(.head 2 0,.box
     (.agg [.int .i64 0,.int .i64 0,.int .i64 0,.int .i64 0,.int .i64 0,.nils,.nils]) true),(.head 3 0,.box (encFlt (Repl.flt parse r)) true),
     (.head 4 0,.row 8 (List.map encVersion acc ++ [encVersion _x19]) true true)]) (by simp [encFlt,encRepl,_w30]) (again ((k + (1 : Nat),acc ++ [_x19])) ⟨(by dsimp only; omega),⟨(by dsimp only; (clear again; (simp; omega))),(by dsimp only; (clear again; (rw [filter_at ‹_› (by simp [*]),← hs])))⟩⟩ (by dsimp only; omega)))
     (fun _h29 => (_h29 trivial).elim)) (fun _h28 => False.elim (by omega))))) (fun _h27 => have _w31 := wI64' ((↑k : Int) + (1 : Int)); .A (St.mk [(1,.ref (.head 1 0) 0 0),(2,.ref
     (.head 2 0) 0 0),(3,.ref (.head 3 0) 0 0),(4,.sref (.head 4 0) 0 acc.length),(5,.int .i64 (IntKind.i64.wrap ((↑k : Int) + 1)))] [(.head 1 0,.box (encRepl r) true),(.head 2 0,.box
     (.agg [.int .i64 0,.int .i64 0,.int .i64 0,.int .i64 0,.int .i64 0,.nils,.nils]) true),(.head 3 0,.box (encFlt (Repl.flt parse r)) true),
     (.head 4 0,.row 8 (List.map encVersion acc) true true)]) (by simp [encFlt,encRepl,_w31]) (again ((k + (1 : Nat),acc)) ⟨(by dsimp only; omega),⟨(by dsimp only; omega),(by dsimp only; (clear again; (rw [filter_no ‹_› (by simp [*]),← hs])))⟩⟩ (by dsimp only; omega)))))))))))))))))))
     (fun _h18 => have _w32 : List.take acc.length (List.map encVersion acc) = List.map encVersion acc := List.take_of_length_le (by simp); .q (Res.mk
     (.agg [.int .i64 r.ID,.int .i64 r.Size,.int .i64 r.L,.int .i64 r.N,.int .i64 r.Quota,.tree (List.take acc.length (List.map encVersion acc)),.tree (List.map encView r.Views)]) [] []) (by (clear again; (rw [List.take_of_length_le (by omega)] at hs; simp [Repl.sweep,encRepl,← hs,List.take_of_length_le]; done)))))
def lastR (l : List View) : Nat → Int
  | 0 => 0
  | k + 1 => ((l[k]?).map View.R).getD 0
def lastS (l : List Version) : Nat → Option Stamp
  | 0 => none
  | k + 1 => (l[k]?).map Version.S
theorem may_pos {P : Prs} {size : Int} {v : View} (h : v.may P size = true) : 1 ≤ v.R := by
  unfold View.may at h
  split at h
  · omega
  · cases h
theorem views_step {size : Int} {l : List View} {k : Nat} {x : View} (h : l[k]? = some x) (hs : viewsMay parse size 0 l = viewsMay parse size (lastR l k) (l.drop k)) (hm : x.may parse size = true) (hr : 1 ≤ x.Rev ∧ lastR l k < x.R) : viewsMay parse size 0 l = viewsMay parse size (lastR l (k + 1)) (l.drop (k + 1)) := by
  have e : lastR l (k + 1) = x.R := by simp [lastR,h]
  rw [hs,drop_at h,e]
  simp only [viewsMay,hm,decide_eq_true hr,Bool.true_and]
theorem views_step0 {size : Int} {l : List View} {k : Nat} {x : View} (h : l[k]? = some x) (h0 : ¬ 0 < k) (hs : viewsMay parse size 0 l = viewsMay parse size (lastR l k) (l.drop k)) (hm : x.may parse size = true) (hr : ¬ x.Rev < 1) : viewsMay parse size 0 l = viewsMay parse size (lastR l (k + 1)) (l.drop (k + 1)) := by
  have e : k = 0 := by omega
  subst e
  have := may_pos hm
  exact views_step h hs hm ⟨by omega,by simp [lastR]; omega⟩
theorem lastR_pos {size : Int} {l : List View} {k : Nat} {x : View} (h : l[k]? = some x) (hm : x.may parse size = true) : 0 ≤ lastR l (k + 1) := by
  have := may_pos hm
  simp [lastR,h]; omega
theorem c35 (g : Gossip) (size : Int) (h4 : size ≤ 100) (h1 : g.Views.length ≤ 100000) (h2 : g.Batch.length ≤ 100000) (hw : ∀ v ∈ g.Views,v.Filter.length ≤ 100000 ∧ v.Seen.length ≤ 100000 ∧ v.Epochs.length ≤ 100000) (hv : ∀ v ∈ g.Batch,v.Attrs.length ≤ 100000 ∧ v.Tag.length ≤ 100000 ∧ v.Body.length ≤ 100000) : X.call 35 [encGossip g,.int .i64 size] [] ⟨.bool (g.may parse size),[],[]⟩ := by
  refine spec_of ok Go.Proofs.Tryz.func35 ok35 ?_
  refine (.i (g.From < 1) (fun _h8 => .it _h8 (.it _h8 (.it _h8 (.it _h8 (.T (.T (.T (.T (.T (.T (.T (.T (.T (.T (.T (.T (.T (.T (.T (.T (.T (.T (.T (.T (.T (.q (Res.mk
   (.bool false) [] []) (by (simp [Gossip.may]; omega)))))))))))))))))))))))))))) (fun _h8 => .iF _h8 (.iF _h8 (.iF _h8 (.iF _h8 (.i (size < g.From) (fun _h9 => .it _h9 (.it _h9 (.it _h9 (.T (.T (.T (.T
   (.T (.T (.T (.T (.T (.T (.T (.T (.T (.T (.T (.T (.T (.q (Res.mk (.bool false) [] []) (by (simp [Gossip.may]; omega))))))))))))))))))))))) (fun _h9 => .iF _h9 (.iF _h9 (.iF _h9 (.i (g.To < 1)
   (fun _h10 => .it _h10 (.it _h10 (.it _h10 (.it _h10 (.T (.T (.T (.T (.T (.T (.T (.T (.T (.T (.T (.T (.q (Res.mk (.bool false) [] []) (by (simp [Gossip.may]; omega)))))))))))))))))))
   (fun _h10 => .iF _h10 (.iF _h10 (.iF _h10 (.iF _h10 (.i (size < g.To) (fun _h11 => .it _h11 (.it _h11 (.it _h11 (.it _h11 (.it _h11 (.T (.T (.T (.T (.T (.T (.q (Res.mk
   (.bool false) [] []) (by (simp [Gossip.may]; omega)))))))))))))) (fun _h11 => .iF _h11 (.iF _h11 (.iF _h11 (.iF _h11 (.iF _h11 (.i (g.From = g.To) (fun _h12 => .it _h12 (.it _h12 (.it _h12 (.it _h12
   (.T (.q (Res.mk (.bool false) [] []) (by (simp [Gossip.may, *]; done)))))))) (fun _h12 => .iF _h12 (.iF _h12 (.iF _h12 (.iF _h12
   (.k (4 < (↑(List.map encVersion g.Batch).length : Int)) (4 < g.Batch.length) (by simp only [List.length_map,ciLt]) (fun _h13 => .q (Res.mk (.bool false) [] []) (by (simp [Gossip.may]; omega)))
   (fun _h13 => ?_)))))))))))))))))))))))))))
  have e0 : Gossip.may parse size g = (viewsMay parse size 0 g.Views && batchMay none g.Batch) := by
    unfold Gossip.may; rw [decide_eq_true (by omega),Bool.true_and]
  rw [e0]
  refine Sat.pLoop 4 (St.mk [(1,.int .i64 size),(2,.ref (.head 2 0) 0 0),(5,.int .i64 0)] [(.head 2 0,.box (encGossip g) true)]) (by kernel_rfl) (fun (k : Nat) => ⟨[(1,.int .i64 size),(2,.ref
   (.head 2 0) 0 0),(5,.int .i64 k)],[(.head 2 0,.box (encGossip g) true)]⟩) (fun k => k ≤ g.Views.length ∧ viewsMay parse size 0 g.Views = viewsMay parse size (lastR g.Views k) (g.Views.drop k) ∧ 0 ≤ lastR g.Views k) (fun k => g.Views.length - k) 0 rfl ?_ ?_
  · exact ⟨by omega,rfl,by simp [lastR]⟩
  · intro k hI again
    have hk := hI.1
    have hs := hI.2.1
    have hp := hI.2.2
    clear hI
    have h0 : k = 0 ∨ ∃ j,k = j + 1 := by cases k <;> simp
    refine (.kl encView g.Views k (fun _h22 => .T (.em encView g.Views k ‹_›
     (fun _x23 _hx24 => have _hc25 := (hw _x23 (List.mem_of_getElem? _hx24)).1; have _hc26 := (hw _x23 (List.mem_of_getElem? _hx24)).2.1; have _hc27 := (hw _x23 (List.mem_of_getElem? _hx24)).2.2; .c (@Tryz.c70 (_x23) (size) ‹_› ‹_› ‹_› ‹_›)
     (.m (View.may parse size _x23) (fun _h28 => .y _h28 (.y _h28 (.y _h28 (.y _h28 (.y _h28 (.y _h28 (.y _h28 (.T (.T (.T (.T (.T (.T (.q (Res.mk
     (.bool false) [] []) (by (clear again; (rw [hs,drop_at ‹_›]; simp [viewsMay, *]; done))))))))))))))))) (fun _h28 => .x _h28 (.x _h28 (.x _h28 (.T (.eh encView _hx24 (.x _h28 (.x _h28 (.x _h28 (.x _h28
     (.i (_x23.Rev < 1) (fun _h29 => .it _h29 (.it _h29 (.it _h29 (.it _h29 (.T (.q (Res.mk
     (.bool false) [] []) (by (clear again; (rw [hs,drop_at ‹_›]; simp only [viewsMay]; rw [decide_eq_false (by omega)]; simp; done))))))))) (fun _h29 => .iF _h29 (.iF _h29
     (.k (0 < (↑k : Int)) (0 < k) (by simp only [ciLt]) (fun _h30 => .et (0 < (↑k : Int)) (by simp only [ciLt]) _h30 (.et (0 < (↑k : Int)) (by simp only [ciLt]) _h30
     (.et (0 < (↑k : Int)) (by simp only [ciLt]) _h30 (.T (.eh encView _hx24 (.et (0 < (↑k : Int)) (by simp only [ciLt]) _h30 (.et (0 < (↑k : Int)) (by simp only [ciLt]) _h30
     (.et (0 < (↑k : Int)) (by simp only [ciLt]) _h30 (.et (0 < (↑k : Int)) (by simp only [ciLt]) _h30 (.et (0 < (↑k : Int)) (by simp only [ciLt]) _h30 (.et (0 < (↑k : Int)) (by simp only [ciLt]) _h30
     (.et (0 < (↑k : Int)) (by simp only [ciLt]) _h30 (have _w31 := wI64' ((↑k : Int) - (1 : Int)); .k (0 ≤ IntKind.i64.wrap ((↑k : Int) - 1)) (0 ≤ (↑k : Int) - 1) (by simp only [_w31])
     (fun _h32 => .eM encView g.Views ((IntKind.i64.wrap ((↑k : Int) - 1)).toNat) (((↑k : Int) - 1).toNat) (by simp only [_w31]) (by omega)
     (fun _x33 _hx34 => have _hc35 := (hw _x33 (List.mem_of_getElem? _hx34)).1; have _hc36 := (hw _x33 (List.mem_of_getElem? _hx34)).2.1; have _hc37 := (hw _x33 (List.mem_of_getElem? _hx34)).2.2; .et (0 < (↑k : Int)) (by simp only [ciLt]) _h30
     (.et (0 < (↑k : Int)) (by simp only [ciLt]) _h30 (.et (0 < (↑k : Int)) (by simp only [ciLt]) _h30 (.iF _h29 (.et (0 < (↑k : Int)) (by simp only [ciLt]) _h30 (.iF _h29 (.i (_x23.R ≤ _x33.R)
     (fun _h38 => .q (Res.mk (.bool false) [] []) (by (clear again; (rw [hs,drop_at ‹_›]; rcases h0 with rfl | ⟨j,rfl⟩ <;> simp_all [viewsMay,lastR] <;> omega))))
     (fun _h38 => have _w39 := wI64' ((↑k : Int) + (1 : Int)); .A (St.mk [(1,.int .i64 size),(2,.ref
     (.head 2 0) 0 0),(5,.int .i64 (IntKind.i64.wrap ((↑k : Int) + 1)))] [(.head 2 0,.box (encGossip g) true)]) (by simp [encGossip,_w39]) (again (k + (1 : Nat)) ⟨(by omega),⟨(by (clear again; (rw [hs,drop_at ‹_›]; rcases h0 with rfl | ⟨j,rfl⟩ <;> simp_all [viewsMay,lastR] <;> omega))),(by (clear again; (rw [drop_at ‹_›] at hs; rcases h0 with rfl | ⟨j,rfl⟩ <;> simp_all [viewsMay,lastR] <;> omega)))⟩⟩ (by omega)))))))))))
     (fun _h32 => False.elim (by omega))))))))))))))) (fun _h30 => .eF (0 < (↑k : Int)) (by simp only [ciLt]) _h30 (.eF (0 < (↑k : Int)) (by simp only [ciLt]) _h30
     (.eF (0 < (↑k : Int)) (by simp only [ciLt]) _h30 (.eF (0 < (↑k : Int)) (by simp only [ciLt]) _h30 (.eF (0 < (↑k : Int)) (by simp only [ciLt]) _h30 (.eF (0 < (↑k : Int)) (by simp only [ciLt]) _h30
     (.eF (0 < (↑k : Int)) (by simp only [ciLt]) _h30 (.eF (0 < (↑k : Int)) (by simp only [ciLt]) _h30 (.eF (0 < (↑k : Int)) (by simp only [ciLt]) _h30 (.eF (0 < (↑k : Int)) (by simp only [ciLt]) _h30
     (.eF (0 < (↑k : Int)) (by simp only [ciLt]) _h30 (.eF (0 < (↑k : Int)) (by simp only [ciLt]) _h30 (.eF (0 < (↑k : Int)) (by simp only [ciLt]) _h30 (.iF _h29
     (.eF (0 < (↑k : Int)) (by simp only [ciLt]) _h30 (.iF _h29 (.F (have _w40 := wI64' ((↑k : Int) + (1 : Int)); .A (St.mk [(1,.int .i64 size),(2,.ref
     (.head 2 0) 0 0),(5,.int .i64 (IntKind.i64.wrap ((↑k : Int) + 1)))] [(.head 2 0,.box (encGossip g) true)]) (by simp [encGossip,_w40]) (again (k + (1 : Nat)) ⟨(by omega),⟨(by (clear again; (exact views_step0 ‹_› ‹_› hs ‹_› ‹_›))),(by (clear again; (exact lastR_pos ‹_› ‹_›)))⟩⟩ (by omega)))))))))))))))))))))))))))))))))))))
     (fun _h22 => ?_))
    have hv1 : viewsMay parse size 0 g.Views = true := by rw [hs,List.drop_of_length_le (by omega)]; rfl
    rw [hv1,Bool.true_and]
    refine Sat.pLoop 9 (St.mk [(2,.ref (.head 2 0) 0 0),(6,.int .i64 0)] [(.head 2 0,.box (encGossip g) true)]) (by kernel_rfl) (fun (k : Nat) => ⟨[(2,.ref
     (.head 2 0) 0 0),(6,.int .i64 k)],[(.head 2 0,.box (encGossip g) true)]⟩) (fun k => k ≤ g.Batch.length ∧ batchMay none g.Batch = batchMay (lastS g.Batch k) (g.Batch.drop k)) (fun k => g.Batch.length - k) 0 rfl ?_ ?_
    · exact ⟨by omega,rfl⟩
    · intro j hJ again2
      have hj := hJ.1
      have hb := hJ.2
      clear hJ
      have h00 : j = 0 ∨ ∃ i,j = i + 1 := by cases j <;> simp
      refine (.kl encVersion g.Batch j (fun _h30 => .T (.em encVersion g.Batch j ‹_›
       (fun _x31 _hx32 => have _hc33 := (hv _x31 (List.mem_of_getElem? _hx32)).1; have _hc34 := (hv _x31 (List.mem_of_getElem? _hx32)).2.1; have _hc35 := (hv _x31 (List.mem_of_getElem? _hx32)).2.2; .c (@Tryz.c71 (_x31) ‹_› ‹_› ‹_›)
       (.m _x31.may (fun _h36 => .y _h36 (.y _h36 (.y _h36 (.y _h36 (.T (.q (Res.mk (.bool false) [] []) (by (clear again again2; (rw [hb,drop_at ‹_›]; simp [batchMay, *]; done))))))))) (fun _h36 => .x _h36
       (.x _h36 (.k (0 < (↑j : Int)) (0 < j) (by simp only [ciLt]) (fun _h37 => .et (0 < (↑j : Int)) (by simp only [ciLt]) _h37 (.et (0 < (↑j : Int)) (by simp only [ciLt]) _h37
       (.et (0 < (↑j : Int)) (by simp only [ciLt]) _h37 (.et (0 < (↑j : Int)) (by simp only [ciLt]) _h37
       (have _w38 := wI64' ((↑j : Int) - (1 : Int)); .k (0 ≤ IntKind.i64.wrap ((↑j : Int) - 1)) (0 ≤ (↑j : Int) - 1) (by simp only [_w38])
       (fun _h39 => .eM encVersion g.Batch ((IntKind.i64.wrap ((↑j : Int) - 1)).toNat) (((↑j : Int) - 1).toNat) (by simp only [_w38]) (by omega)
       (fun _x40 _hx41 => have _hc42 := (hv _x40 (List.mem_of_getElem? _hx41)).1; have _hc43 := (hv _x40 (List.mem_of_getElem? _hx41)).2.1; have _hc44 := (hv _x40 (List.mem_of_getElem? _hx41)).2.2; .et (0 < (↑j : Int)) (by simp only [ciLt]) _h37
       (.et (0 < (↑j : Int)) (by simp only [ciLt]) _h37 (.et (0 < (↑j : Int)) (by simp only [ciLt]) _h37 (.et (0 < (↑j : Int)) (by simp only [ciLt]) _h37 (.et (0 < (↑j : Int)) (by simp only [ciLt]) _h37
       (.et (0 < (↑j : Int)) (by simp only [ciLt]) _h37 (.T (.eh encVersion _hx32 (.et (0 < (↑j : Int)) (by simp only [ciLt]) _h37 (.et (0 < (↑j : Int)) (by simp only [ciLt]) _h37
       (.et (0 < (↑j : Int)) (by simp only [ciLt]) _h37 (.c (@Tryz.c32 (_x40.S) (_x31.S)) (.et (0 < (↑j : Int)) (by simp only [ciLt]) _h37 (.x _h36 (.et (0 < (↑j : Int)) (by simp only [ciLt]) _h37 (.x _h36
       (.i (0 ≤ _x40.S.cmp _x31.S) (fun _h45 => .q (Res.mk (.bool false) [] []) (by (clear again again2; (rw [hb,drop_at ‹_›]; rcases h00 with rfl | ⟨i,rfl⟩ <;> simp_all [batchMay,lastS] <;> omega))))
       (fun _h45 => have _w46 := wI64' ((↑j : Int) + (1 : Int)); .A (St.mk [(2,.ref
       (.head 2 0) 0 0),(6,.int .i64 (IntKind.i64.wrap ((↑j : Int) + 1)))] [(.head 2 0,.box (encGossip g) true)]) (by simp [encGossip,_w46]) (again2 (j + (1 : Nat)) ⟨(by omega),(by (clear again again2; (rw [hb,drop_at ‹_›]; rcases h00 with rfl | ⟨i,rfl⟩ <;> simp_all [batchMay,lastS] <;> omega)))⟩ (by omega)))))))))))))))))))))
       (fun _h39 => False.elim (by omega))))))) (fun _h37 => .eF (0 < (↑j : Int)) (by simp only [ciLt]) _h37 (.eF (0 < (↑j : Int)) (by simp only [ciLt]) _h37 (.eF (0 < (↑j : Int)) (by simp only [ciLt]) _h37
       (.eF (0 < (↑j : Int)) (by simp only [ciLt]) _h37 (.eF (0 < (↑j : Int)) (by simp only [ciLt]) _h37 (.eF (0 < (↑j : Int)) (by simp only [ciLt]) _h37 (.eF (0 < (↑j : Int)) (by simp only [ciLt]) _h37
       (.eF (0 < (↑j : Int)) (by simp only [ciLt]) _h37 (.eF (0 < (↑j : Int)) (by simp only [ciLt]) _h37 (.eF (0 < (↑j : Int)) (by simp only [ciLt]) _h37 (.eF (0 < (↑j : Int)) (by simp only [ciLt]) _h37
       (.eF (0 < (↑j : Int)) (by simp only [ciLt]) _h37 (.eF (0 < (↑j : Int)) (by simp only [ciLt]) _h37 (.eF (0 < (↑j : Int)) (by simp only [ciLt]) _h37 (.x _h36
       (.eF (0 < (↑j : Int)) (by simp only [ciLt]) _h37 (.x _h36 (.F (have _w47 := wI64' ((↑j : Int) + (1 : Int)); .A (St.mk [(2,.ref
       (.head 2 0) 0 0),(6,.int .i64 (IntKind.i64.wrap ((↑j : Int) + 1)))] [(.head 2 0,.box (encGossip g) true)]) (by simp [encGossip,_w47]) (again2 (j + (1 : Nat)) ⟨(by omega),(by (clear again again2; (rw [hb,drop_at ‹_›]; rcases h00 with rfl | ⟨i,rfl⟩ <;> simp_all [batchMay,lastS] <;> omega)))⟩ (by omega))))))))))))))))))))))))))))
       (fun _h30 => .q (Res.mk (.bool true) [] []) (by (clear again again2; (rw [hb,List.drop_of_length_le (by omega)]; simp [batchMay])))))
end Go.Ab.Tryz
