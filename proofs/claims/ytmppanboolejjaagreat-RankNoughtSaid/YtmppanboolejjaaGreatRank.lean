/- Package rank, as plain Lean. -/
import Derived.Test.YtmppanboolejjaaGreatRef1f
import Derived.Test.YtmppanboolejjaaGreatG3
namespace Go.Ab.Tryz
open Go
set_option maxRecDepth 100000
set_option maxHeartbeats 4000000
theorem c39 (l : List Int) (r : Int) (hl : l.length ≤ 100000) : X.call 39 [.tree (l.map encI),.int .i64 r] [] ⟨.int .i64 (if 1 ≤ r ∧ r ≤ l.length then l.getD (r - 1).toNat 0 else 0),[],[]⟩ := by
  refine spec_of ok Go.Proofs.Tryz.func39 ok39 ?_
  refine (.i (r < 1) (fun _h4 => .it _h4 (.it _h4 (.it _h4 (.it _h4 (.T (.q (Res.mk (.int .i64 0) [] []) (by (rw [if_neg (by omega)])))))))) (fun _h4 => .iF _h4 (.iF _h4 (.iF _h4 (.iF _h4
   (.k ((↑(List.map encI l).length : Int) < r) ((↑l.length : Int) < r) (by simp only [List.length_map]) (fun _h5 => .q (Res.mk (.int .i64 0) [] []) (by (rw [if_neg (by omega)])))
   (fun _h5 => have _w6 := wI64' (r - (1 : Int)); .k (0 ≤ IntKind.i64.wrap (r - 1)) (0 ≤ r - 1) (by simp only [_w6])
   (fun _h7 => .eM encI l ((IntKind.i64.wrap (r - 1)).toNat) ((r - 1).toNat) (by simp only [_w6]) (by omega) (fun _x8 _hx9 => .q (Res.mk
   (.int .i64 _x8) [] []) (by (rw [if_pos (by omega),List.getD,(by assumption : l[_]? = some _)]; rfl)))) (fun _h7 => False.elim (by omega)))))))))
theorem c62 (l : List Attr) (hl : l.length ≤ 1000) :
    X.call 62 [.tree (l.map encAttr)] [] ⟨.sref (.out 0) 0 l.length,[],[.row 2 (l.map encAttr) true true]⟩ := by
  refine spec_of ok Go.Proofs.Tryz.func62 ok62 ?_
  refine (Sat.pNodeE ((List.map encAttr l).isEmpty) (l = []) (by kernel_rfl) (by simp only [List.isEmpty_map,List.isEmpty_iff]) (fun _h3 => .b (.T (.q (Res.mk (.sref
   (.out 0) 0 0) [] [.row 2 [] true true]) (by simp_all))) (.F (.z encAttr l 2 (fun _ => rfl)
   (.k ((0 + (List.map encAttr l).length) * (16 : Nat) ≤ 140737488355328) ((0 + l.length) * (16 : Nat) ≤ 140737488355328) (by simp only [List.length_map]) (fun _h4 => .T (.q (Res.mk (.sref
   (.out 0) 0 (0 + (List.map encAttr l).length)) [] [.row 2 (List.map encAttr l) true true]) (by simp_all))) (fun _h4 => False.elim (by omega)))))) (fun _h3 => .F (.z encAttr l 2 (fun _ => rfl)
   (.k ((0 + (List.map encAttr l).length) * (16 : Nat) ≤ 140737488355328) ((0 + l.length) * (16 : Nat) ≤ 140737488355328) (by simp only [List.length_map]) (fun _h5 => .T (.q (Res.mk (.sref
   (.out 0) 0 (0 + (List.map encAttr l).length)) [] [.row 2 (List.map encAttr l) true true]) (by simp_all))) (fun _h5 => False.elim (by omega))))))
theorem c113 (l : List Version) (hl : l.length ≤ 1000) :
    X.call 113 [.tree (l.map encVersion)] [] ⟨.sref (.out 0) 0 l.length,[],[.row 8 (l.map encVersion) true true]⟩ := by
  refine spec_of ok Go.Proofs.Tryz.func113 ok113 ?_
  refine (Sat.pNodeE ((List.map encVersion l).isEmpty) (l = []) (by kernel_rfl) (by simp only [List.isEmpty_map,List.isEmpty_iff]) (fun _h3 => .b (.T (.q (Res.mk (.sref
   (.out 0) 0 0) [] [.row 8 [] true true]) (by simp_all))) (.F (.z encVersion l 8 (fun _ => rfl)
   (.k ((0 + (List.map encVersion l).length) * (96 : Nat) ≤ 140737488355328) ((0 + l.length) * (96 : Nat) ≤ 140737488355328) (by simp only [List.length_map]) (fun _h4 => .T (.q (Res.mk (.sref
   (.out 0) 0 (0 + (List.map encVersion l).length)) [] [.row 8 (List.map encVersion l) true true]) (by simp_all))) (fun _h4 => False.elim (by omega)))))) (fun _h3 => .F (.z encVersion l 8 (fun _ => rfl)
   (.k ((0 + (List.map encVersion l).length) * (96 : Nat) ≤ 140737488355328) ((0 + l.length) * (96 : Nat) ≤ 140737488355328) (by simp only [List.length_map]) (fun _h5 => .T (.q (Res.mk (.sref
   (.out 0) 0 (0 + (List.map encVersion l).length)) [] [.row 8 (List.map encVersion l) true true]) (by simp_all))) (fun _h5 => False.elim (by omega))))))
theorem c114 (l : List View) (hl : l.length ≤ 1000) :
    X.call 114 [.tree (l.map encView)] [] ⟨.sref (.out 0) 0 l.length,[],[.row 5 (l.map encView) true true]⟩ := by
  refine spec_of ok Go.Proofs.Tryz.func114 ok114 ?_
  refine (Sat.pNodeE ((List.map encView l).isEmpty) (l = []) (by kernel_rfl) (by simp only [List.isEmpty_map,List.isEmpty_iff]) (fun _h3 => .b (.T (.q (Res.mk (.sref
   (.out 0) 0 0) [] [.row 5 [] true true]) (by simp_all))) (.F (.z encView l 5 (fun _ => rfl)
   (.k ((0 + (List.map encView l).length) * (80 : Nat) ≤ 140737488355328) ((0 + l.length) * (80 : Nat) ≤ 140737488355328) (by simp only [List.length_map]) (fun _h4 => .T (.q (Res.mk (.sref
   (.out 0) 0 (0 + (List.map encView l).length)) [] [.row 5 (List.map encView l) true true]) (by simp_all))) (fun _h4 => False.elim (by omega)))))) (fun _h3 => .F (.z encView l 5 (fun _ => rfl)
   (.k ((0 + (List.map encView l).length) * (80 : Nat) ≤ 140737488355328) ((0 + l.length) * (80 : Nat) ≤ 140737488355328) (by simp only [List.length_map]) (fun _h5 => .T (.q (Res.mk (.sref
   (.out 0) 0 (0 + (List.map encView l).length)) [] [.row 5 (List.map encView l) true true]) (by simp_all))) (fun _h5 => False.elim (by omega))))))
theorem c115 (l : List Head) (hl : l.length ≤ 1000) :
    X.call 115 [.tree (l.map encHead)] [] ⟨.sref (.out 0) 0 l.length,[],[.row 4 (l.map encHead) true true]⟩ := by
  refine spec_of ok Go.Proofs.Tryz.func115 ok115 ?_
  refine (Sat.pNodeE ((List.map encHead l).isEmpty) (l = []) (by kernel_rfl) (by simp only [List.isEmpty_map,List.isEmpty_iff]) (fun _h3 => .b (.T (.q (Res.mk (.sref
   (.out 0) 0 0) [] [.row 4 [] true true]) (by simp_all))) (.F (.z encHead l 4 (fun _ => rfl)
   (.k ((0 + (List.map encHead l).length) * (32 : Nat) ≤ 140737488355328) ((0 + l.length) * (32 : Nat) ≤ 140737488355328) (by simp only [List.length_map]) (fun _h4 => .T (.q (Res.mk (.sref
   (.out 0) 0 (0 + (List.map encHead l).length)) [] [.row 4 (List.map encHead l) true true]) (by simp_all))) (fun _h4 => False.elim (by omega)))))) (fun _h3 => .F (.z encHead l 4 (fun _ => rfl)
   (.k ((0 + (List.map encHead l).length) * (32 : Nat) ≤ 140737488355328) ((0 + l.length) * (32 : Nat) ≤ 140737488355328) (by simp only [List.length_map]) (fun _h5 => .T (.q (Res.mk (.sref
   (.out 0) 0 (0 + (List.map encHead l).length)) [] [.row 4 (List.map encHead l) true true]) (by simp_all))) (fun _h5 => False.elim (by omega))))))
theorem c116 (l : List Int) (hl : l.length ≤ 1000) :
    X.call 116 [.tree (l.map encI)] [] ⟨.sref (.out 0) 0 l.length,[],[.row 1 (l.map encI) true true]⟩ := by
  refine spec_of ok Go.Proofs.Tryz.func116 ok116 ?_
  refine (Sat.pNodeE ((List.map encI l).isEmpty) (l = []) (by kernel_rfl) (by simp only [List.isEmpty_map,List.isEmpty_iff]) (fun _h3 => .b (.T (.q (Res.mk (.sref
   (.out 0) 0 0) [] [.row 1 [] true true]) (by simp_all))) (.F (.z encI l 1 (fun _ => rfl)
   (.k ((0 + (List.map encI l).length) * (8 : Nat) ≤ 140737488355328) ((0 + l.length) * (8 : Nat) ≤ 140737488355328) (by simp only [List.length_map]) (fun _h4 => .T (.q (Res.mk (.sref
   (.out 0) 0 (0 + (List.map encI l).length)) [] [.row 1 (List.map encI l) true true]) (by simp_all))) (fun _h4 => False.elim (by omega)))))) (fun _h3 => .F (.z encI l 1 (fun _ => rfl)
   (.k ((0 + (List.map encI l).length) * (8 : Nat) ≤ 140737488355328) ((0 + l.length) * (8 : Nat) ≤ 140737488355328) (by simp only [List.length_map]) (fun _h5 => .T (.q (Res.mk (.sref
   (.out 0) 0 (0 + (List.map encI l).length)) [] [.row 1 (List.map encI l) true true]) (by simp_all))) (fun _h5 => False.elim (by omega))))))
theorem set_same {T : Type} {enc : T → AV} {l : List T} {n : Nat} {x : T} (h : l[n]? = some x) : (l.map enc).set n (enc x) = l.map enc := by
  rw [← List.map_set]
  congr 1
  have hk : n < l.length := (List.getElem?_eq_some_iff.1 h).1
  rw [List.getElem?_eq_getElem hk] at h
  rw [← Option.some.inj h]; exact List.set_getElem_self hk
theorem c75 (r : Repl) (h1 : r.Held.length ≤ 1000) (h2 : r.Views.length ≤ 1000) (h3 : ∀ v ∈ r.Held,v.Attrs.length ≤ 1000) (h4 : ∀ w ∈ r.Views,w.Seen.length ≤ 1000 ∧ w.Epochs.length ≤ 1000) : X.call 75 [encRepl r] [] ⟨encRepl r,[],[]⟩ := by
  refine spec_of ok Go.Proofs.Tryz.func75 ok75 ?_
  refine (.c (@Tryz.c113 (r.Held) ‹_›) ?_)
  refine Sat.pLoop 3 (St.mk [(1,.ref (.head 1 0) 0 0),(2,.ref (.head 2 0) 0 0),(3,.sref (.head 3 0) 0 r.Held.length),(11,.sref
   (.head 3 0) 0 r.Held.length),(12,.int .i64 (↑r.Held.length : Int)),(13,.int .i64 0)] [(.head 1 0,.box (encRepl r) true),(.head 2 0,.box
   (.agg [.int .i64 0,.int .i64 0,.int .i64 0,.int .i64 0,.int .i64 0,.nils,.nils]) true),(.head 3 0,.row 8 (List.map encVersion r.Held) true true)]) (by kernel_rfl) (fun (i : Nat) => ⟨[(1,.ref
   (.head 1 0) 0 0),(2,.ref (.head 2 0) 0 0),(3,.sref (.head 3 0) 0 r.Held.length),(11,.sref
   (.head 3 0) 0 r.Held.length),(12,.int .i64 r.Held.length),(13,.int .i64 i)],[(.head 1 0,.box (encRepl r) true),(.head 2 0,.box
   (.agg [.int .i64 0,.int .i64 0,.int .i64 0,.int .i64 0,.int .i64 0,.nils,.nils]) true),
   (.head 3 0,.row 8 (r.Held.map encVersion) true true)]⟩) (fun i => i ≤ r.Held.length) (fun i => r.Held.length - i) 0 rfl ?_ ?_
  · omega
  · intro i hi again
    refine (.k ((↑i : Int) < (↑r.Held.length : Int)) (i < r.Held.length) (by simp only [Int.ofNat_lt])
     (fun _h9 => .k (0 ≤ (↑i : Int) ∧ (↑i : Int) < (↑r.Held.length : Int)) (0 ≤ i ∧ i < r.Held.length) (by simp only [Int.ofNat_lt,ciLe]) (fun _h10 => .em encVersion r.Held i ‹_›
     (fun _x11 _hx12 => have _hc13 := (h3 _x11 (List.mem_of_getElem? _hx12)); .c (@Tryz.c62 (_x11.Attrs) ‹_›)
     (.et (0 ≤ (↑i : Int) ∧ (↑i : Int) < (↑r.Held.length : Int)) (by simp only [Int.ofNat_lt,ciLe]) _h10 (.eh encVersion _hx12
     (have _w14 := wI64' ((↑i : Int) + (1 : Int)); have _w15 : List.take _x11.Attrs.length (List.map encAttr _x11.Attrs) = List.map encAttr _x11.Attrs := List.take_of_length_le (by simp); .A (St.mk [(1,.ref
     (.head 1 0) 0 0),(2,.ref (.head 2 0) 0 0),(3,.sref (.head 3 0) 0 r.Held.length),(11,.sref
     (.head 3 0) 0 r.Held.length),(12,.int .i64 (↑r.Held.length : Int)),(13,.int .i64 (IntKind.i64.wrap ((↑i : Int) + 1)))] [(.head 1 0,.box (encRepl r) true),(.head 2 0,.box
     (.agg [.int .i64 0,.int .i64 0,.int .i64 0,.int .i64 0,.int .i64 0,.nils,.nils]) true),(.head 3 0,.row 8 ((List.map encVersion r.Held).set (↑i : Int).toNat
     (.agg [.int .i64 _x11.Item,.int .i64 _x11.S.L,.int .i64 _x11.S.R,.int .i64 _x11.S.N,.bool _x11.Dead,.tree (List.take _x11.Attrs.length (List.map encAttr _x11.Attrs)),.str _x11.Tag,.str _x11.Body])) true true)]) (by (clear again; (have e := set_same (enc := encVersion) ‹r.Held[i]? = some _›; simp only [encVersion] at e; simp [encRepl,List.take_of_length_le, *]; done))) (again (i + (1 : Nat)) (by omega) (by omega)))))))
     (fun _h10 => False.elim (by omega))) (fun _h9 => .c (@Tryz.c114 (r.Views) ‹_›) ?_))
    refine Sat.pLoop 9 (St.mk [(1,.ref (.head 1 0) 0 0),(2,.ref (.head 2 0) 0 0),(33,.sref (.head 1 2) 0 r.Views.length),(34,.int .i64 (↑r.Views.length : Int)),(35,.int .i64 0)] [(.head 1 0,.box
     (.agg [.int .i64 r.ID,.int .i64 r.Size,.int .i64 r.L,.int .i64 r.N,.int .i64 r.Quota,.sref (.head 1 1) 0 r.Held.length,.sref (.head 1 2) 0 r.Views.length]) true),
     (.head 1 1,.row 8 (List.map encVersion r.Held) true true),(.head 1 2,.row 5 (List.map encView r.Views) true true),(.head 2 0,.box
     (.agg [.int .i64 0,.int .i64 0,.int .i64 0,.int .i64 0,.int .i64 0,.nils,.nils]) true)]) (by kernel_rfl) (fun (j : Nat) => ⟨[(1,.ref (.head 1 0) 0 0),(2,.ref (.head 2 0) 0 0),(33,.sref
     (.head 1 2) 0 r.Views.length),(34,.int .i64 r.Views.length),(35,.int .i64 j)],[(.head 1 0,.box (.agg [.int .i64 r.ID,.int .i64 r.Size,.int .i64 r.L,.int .i64 r.N,.int .i64 r.Quota,.sref
     (.head 1 1) 0 r.Held.length,.sref (.head 1 2) 0 r.Views.length]) true),(.head 1 1,.row 8 (r.Held.map encVersion) true true),(.head 1 2,.row 5 (r.Views.map encView) true true),(.head 2 0,.box
     (.agg [.int .i64 0,.int .i64 0,.int .i64 0,.int .i64 0,.int .i64 0,.nils,.nils]) true)]⟩) (fun j => j ≤ r.Views.length) (fun j => r.Views.length - j) 0 rfl ?_ ?_
    · omega
    · intro j hj again2
      refine (.k ((↑j : Int) < (↑r.Views.length : Int)) (j < r.Views.length) (by simp only [Int.ofNat_lt])
       (fun _h13 => .k (0 ≤ (↑j : Int) ∧ (↑j : Int) < (↑r.Views.length : Int)) (0 ≤ j ∧ j < r.Views.length) (by simp only [Int.ofNat_lt,ciLe]) (fun _h14 => .em encView r.Views j ‹_›
       (fun _x15 _hx16 => have _hc17 := (h4 _x15 (List.mem_of_getElem? _hx16)).1; have _hc18 := (h4 _x15 (List.mem_of_getElem? _hx16)).2; .c (@Tryz.c115 (_x15.Seen) ‹_›) (.c (@Tryz.c116 (_x15.Epochs) ‹_›)
       (.et (0 ≤ (↑j : Int) ∧ (↑j : Int) < (↑r.Views.length : Int)) (by simp only [Int.ofNat_lt,ciLe]) _h14 (.eh encView _hx16
       (.et (0 ≤ (↑j : Int) ∧ (↑j : Int) < (↑r.Views.length : Int)) (by simp only [Int.ofNat_lt,ciLe]) _h14
       (have _w19 : List.take _x15.Seen.length (List.map encHead _x15.Seen) = List.map encHead _x15.Seen := List.take_of_length_le (by simp); Sat.pElemM (encView) (r.Views.set (↑j : Int).toNat _x15) ((List.map encView r.Views).set (↑j : Int).toNat (AV.agg [AV.int IntKind.i64 _x15.R,AV.int IntKind.i64 _x15.Rev,AV.str _x15.Filter,AV.tree (List.take _x15.Seen.length (List.map encHead _x15.Seen)),AV.tree (List.map encI _x15.Epochs)])) (j) (by kernel_rfl) (by simp [encView,_w19]) (by (clear again again2; (simp; omega)))
       (fun _x20 _hx21 => have _w22 := wI64' ((↑j : Int) + (1 : Int)); have _w23 : List.take _x15.Epochs.length (List.map encI _x15.Epochs) = List.map encI _x15.Epochs := List.take_of_length_le (by simp); .A (St.mk [(1,.ref
       (.head 1 0) 0 0),(2,.ref (.head 2 0) 0 0),(33,.sref (.head 1 2) 0 r.Views.length),(34,.int .i64 (↑r.Views.length : Int)),(35,.int .i64 (IntKind.i64.wrap ((↑j : Int) + 1)))] [(.head 1 0,.box
       (.agg [.int .i64 r.ID,.int .i64 r.Size,.int .i64 r.L,.int .i64 r.N,.int .i64 r.Quota,.sref (.head 1 1) 0 r.Held.length,.sref (.head 1 2) 0 r.Views.length]) true),
       (.head 1 1,.row 8 (List.map encVersion r.Held) true true),(.head 1 2,.row 5 (((List.map encView r.Views).set (↑j : Int).toNat
       (.agg [.int .i64 _x15.R,.int .i64 _x15.Rev,.str _x15.Filter,.tree (List.take _x15.Seen.length (List.map encHead _x15.Seen)),.tree (List.map encI _x15.Epochs)])).set (↑j : Int).toNat
       (.agg [.int .i64 _x20.R,.int .i64 _x20.Rev,.str _x20.Filter,.tree (List.map encHead _x20.Seen),.tree (List.take _x15.Epochs.length (List.map encI _x15.Epochs))])) true true),(.head 2 0,.box
       (.agg [.int .i64 0,.int .i64 0,.int .i64 0,.int .i64 0,.int .i64 0,.nils,.nils]) true)]) ?_ (again2 (j + (1 : Nat)) (by omega) (by omega)))))))))) (fun _h14 => False.elim (by omega)))
       (fun _h13 => have _w24 : List.take r.Held.length (List.map encVersion r.Held) = List.map encVersion r.Held := List.take_of_length_le (by simp); have _w25 : List.take r.Views.length (List.map encView r.Views) = List.map encView r.Views := List.take_of_length_le (by simp); .q (Res.mk
       (.agg [.int .i64 r.ID,.int .i64 r.Size,.int .i64 r.L,.int .i64 r.N,.int .i64 r.Quota,.tree (List.take r.Held.length (List.map encVersion r.Held)),.tree (List.take r.Views.length (List.map encView r.Views))]) [] []) (by simp [encRepl,List.take_of_length_le]; done)))
      have e20 : _x20 = _x15 := by
        rw [Int.toNat_natCast,List.getElem?_set_self (by omega)] at _hx21
        exact (Option.some.inj _hx21).symm
      have e := set_same (enc := encView) _hx16
      simp only [encView] at e
      rw [e20]
      simp [encI,List.take_of_length_le,List.set_set, *]
end Go.Ab.Tryz
