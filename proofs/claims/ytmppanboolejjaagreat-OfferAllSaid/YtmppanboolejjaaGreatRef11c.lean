/- Package cardamomref11: what may be told, what is known, as plain Lean. -/
import Derived.Test.YtmppanboolejjaaGreatRef11a
import Derived.Test.YtmppanboolejjaaGreatRef1f
namespace Go.Ab.Tryz
open Go
set_option maxRecDepth 100000
set_option maxHeartbeats 4000000
def epOk (e : Int) : Bool := decide (0 ≤ e ∧ e ≤ 1000000)
theorem all_take {T : Type} {l : List T} {k : Nat} {x : T} {f : T → Bool} (h : l[k]? = some x) (hs : (l.take k).all f = true) (hx : f x = true) : (l.take (k + 1)).all f = true := by
  rw [take_succ h,List.all_append,hs]; simp [hx]
theorem c70 (v : View) (size : Int) (h1 : v.Filter.length ≤ 100000) (h2 : v.Seen.length ≤ 100000) (h3 : v.Epochs.length ≤ 100000) (h4 : size ≤ 100) : X.call 70 [encView v,.int .i64 size] [] ⟨.bool (v.may parse size),[],[]⟩ := by
  refine spec_of ok Go.Proofs.Tryz.func70 ok70 ?_
  refine (.i (v.R < 1) (fun _h7 => .it _h7 (.it _h7 (.it _h7 (.it _h7 (.T (.T (.T (.T (.T (.T (.T (.T (.T (.q (Res.mk
   (.bool false) [] []) (by (rw [show View.may parse size v = false from if_neg (by omega)])))))))))))))))) (fun _h7 => .iF _h7 (.iF _h7 (.iF _h7 (.iF _h7 (.i (size < v.R) (fun _h8 => .it _h8 (.it _h8
   (.it _h8 (.T (.T (.T (.T (.T (.q (Res.mk (.bool false) [] []) (by (rw [show View.may parse size v = false from if_neg (by omega)]))))))))))) (fun _h8 => .iF _h8 (.iF _h8 (.iF _h8 (.i (v.Rev < 0)
   (fun _h9 => .it _h9 (.it _h9 (.it _h9 (.T (.q (Res.mk (.bool false) [] []) (by (rw [show View.may parse size v = false from if_neg (by omega)]))))))) (fun _h9 => .iF _h9 (.iF _h9 (.iF _h9
   (.i (1000000 < v.Rev) (fun _h10 => .q (Res.mk (.bool false) [] []) (by (rw [show View.may parse size v = false from if_neg (by omega)]))) (fun _h10 => .i (v.Rev = 0) (fun _h11 => .i (v.Filter = [])
   (fun _h12 => .it _h12 (.it _h12 (.it _h12 (.it _h12 (.k ((↑(List.map encHead v.Seen).length : Int) = 0) (v.Seen.length = 0) (by simp only [List.length_map,icEq])
   (fun _h13 => .et ((↑(List.map encHead v.Seen).length : Int) = 0) (by simp only [List.length_map,icEq]) _h13
   (.et ((↑(List.map encHead v.Seen).length : Int) = 0) (by simp only [List.length_map,icEq]) _h13 (.et ((↑(List.map encHead v.Seen).length : Int) = 0) (by simp only [List.length_map,icEq]) _h13
   (.et ((↑(List.map encHead v.Seen).length : Int) = 0) (by simp only [List.length_map,icEq]) _h13 (.q (Res.mk
   (.bool (decide ((↑(List.map encI v.Epochs).length : Int) = 0))) [] []) (by (simp_all [View.may]; done)))))))
   (fun _h13 => .eF ((↑(List.map encHead v.Seen).length : Int) = 0) (by simp only [List.length_map,icEq]) _h13
   (.eF ((↑(List.map encHead v.Seen).length : Int) = 0) (by simp only [List.length_map,icEq]) _h13 (.eF ((↑(List.map encHead v.Seen).length : Int) = 0) (by simp only [List.length_map,icEq]) _h13
   (.eF ((↑(List.map encHead v.Seen).length : Int) = 0) (by simp only [List.length_map,icEq]) _h13 (.q (Res.mk (.bool false) [] []) (by (simp_all [View.may]; done)))))))))))) (fun _h12 => .iF _h12
   (.iF _h12 (.iF _h12 (.iF _h12 (.F (.F (.F (.F (.F (.q (Res.mk (.bool false) [] []) (by (simp [View.may, *]; done))))))))))))) (fun _h11 => .c (@Tryz.c106 (v.Filter) ‹_›) (.m ((parse v.Filter).snd.snd)
   (fun _h14 => .y _h14 (.y _h14 (.y _h14 (.y _h14 (.T (.T (.T (.T (.T (.T (.T (.q (Res.mk (.bool false) [] []) (by (simp [View.may, *]; done)))))))))))))) (fun _h14 => .x _h14 (.x _h14
   (.c (@Tryz.c107 (v.Seen) ‹_›) (.x _h14 (.x _h14 (.m (headsMay 0 v.Seen) (fun _h15 => .y _h15 (.y _h15 (.y _h15 (.y _h15 (.y _h15 (.T (.q (Res.mk
   (.bool false) [] []) (by (simp [View.may, *]; done))))))))) (fun _h15 => .x _h15 (.x _h15 (.x _h15 (.x _h15 (.x _h15
   (.l ((↑(List.map encI v.Epochs).length : Int) = size) ((↑v.Epochs.length : Int) = size) (by simp only [List.length_map]) (fun _h16 => .q (Res.mk (.bool false) [] []) (by (simp [View.may, *]; done)))
   (fun _h16 => ?_))))))))))))))))))))))))))))))
  have e0 : View.may parse size v = v.Epochs.all epOk := by
    unfold View.may
    rw [if_pos ⟨by omega,by omega,by omega,by omega⟩,if_neg (by omega)]
    simp only [*,decide_true,Bool.true_and]; rfl
  rw [e0]
  refine Sat.pLoop 9 (St.mk [(1,.int .i64 size),(2,.ref (.head 2 0) 0 0),(8,.int .i64 0)] [(.head 2 0,.box (encView v) true)]) (by kernel_rfl) (fun (k : Nat) => ⟨[(1,.int .i64 size),(2,.ref
   (.head 2 0) 0 0),(8,.int .i64 k)],[(.head 2 0,.box (encView v) true)]⟩) (fun k => k ≤ v.Epochs.length ∧ (v.Epochs.take k).all epOk = true) (fun k => v.Epochs.length - k) 0 rfl ?_ ?_
  · simp
  · intro k hI again
    have hk := hI.1
    have hs := hI.2
    clear hI
    refine (.i ((↑k : Int) < size) (fun _h21 => .T (.em encI v.Epochs k (by omega) (fun _x22 _hx23 => .i (_x22 < 0) (fun _h24 => .it _h24 (.it _h24 (.it _h24 (.it _h24 (.it _h24 (.it _h24 (.T (.q (Res.mk
     (.bool false) [] []) (by (clear again; (rw [all_false ‹_› (by simp [epOk]; omega)]))))))))))) (fun _h24 => .iF _h24 (.iF _h24 (.iF _h24 (.T (.eh encI _hx23 (.iF _h24 (.iF _h24 (.iF _h24
     (.i (1000000 < _x22) (fun _h25 => .q (Res.mk (.bool false) [] []) (by (clear again; (rw [all_false ‹_› (by simp [epOk]; omega)]))))
     (fun _h25 => have _w26 := wI64' ((↑k : Int) + (1 : Int)); .A (St.mk [(1,.int .i64 size),(2,.ref
     (.head 2 0) 0 0),(8,.int .i64 (IntKind.i64.wrap ((↑k : Int) + 1)))] [(.head 2 0,.box (encView v) true)]) (by simp [encView,_w26]) (again (k + (1 : Nat)) ⟨(by omega),(by (clear again; (refine all_take ‹_› hs ?_; simp [epOk]; omega)))⟩ (by omega)))))))))))))))
     (fun _h21 => .q (Res.mk (.bool true) [] []) (by (clear again; (rw [List.take_of_length_le (by omega)] at hs; rw [hs])))))
theorem known_no {r : Repl} {v : Version} {w : View} {i : Nat} (h : r.Views[i]? = some w) (hw : w.knows r.Size.toNat (ownOf r.ID r.Views).Epochs v = false) : r.known parse v = false := by
  unfold Repl.known; rw [all_false h hw,Bool.false_and]
theorem c125 (r : Repl) (v : Version) (h0 : 0 ≤ r.Size) (h1 : r.Size ≤ 100) (hl : r.Views.length ≤ 1000) (hw : ∀ w ∈ r.Views,w.Seen.length ≤ 100000 ∧ w.Filter.length ≤ 100000) (ha : v.Attrs.length ≤ 100000) (ht : v.Tag.length ≤ 100000) : X.call 125 [encRepl r,encVersion v] [] ⟨.bool (r.known parse v),[],[]⟩ := by
  obtain ⟨n,hn⟩ := Int.eq_ofNat_of_zero_le h0
  have hn2 : r.Size.toNat = n := by omega
  refine spec_of ok Go.Proofs.Tryz.func125 ok125 ?_
  refine (.c (@Tryz.c41 (r) ‹_›) ?_)
  refine Sat.pLoop 4 (St.mk [(2,.ref (.head 2 0) 0 0),(3,.ref
   (.head 3 0) 0 0),(5,.bool false),(6,.tree (List.map encI (ownOf r.ID r.Views).Epochs)),(7,.int .i64 0)] [(.head 2 0,.box (encRepl r) true),
   (.head 3 0,.box (encVersion v) true)]) (by kernel_rfl) (fun (p : Nat × Bool) => ⟨[(2,.ref (.head 2 0) 0 0),(3,.ref
   (.head 3 0) 0 0),(5,.bool p.2),(6,.tree ((ownOf r.ID r.Views).Epochs.map encI)),(7,.int .i64 p.1)],[(.head 2 0,.box (encRepl r) true),
   (.head 3 0,.box (encVersion v) true)]⟩) (fun p => p.1 ≤ r.Views.length ∧ (r.Views.take p.1).all (fun w => w.knows r.Size.toNat (ownOf r.ID r.Views).Epochs v) = true ∧ p.2 = (r.Views.take p.1).any fun w => (parse w.Filter).1.lets v) (fun p => r.Views.length - p.1) (0,false) rfl ?_ ?_
  · exact ⟨by simp,by simp,by simp⟩
  · rintro ⟨i,kept⟩ hI again
    obtain ⟨hi,hs,hk⟩ := hI
    simp only at hi hs hk
    refine (.kl encView r.Views i (fun _h19 => .T (.em encView r.Views i ‹_›
     (fun _x20 _hx21 => have _hc22 := (hw _x20 (List.mem_of_getElem? _hx21)).1; have _hc23 := (hw _x20 (List.mem_of_getElem? _hx21)).2; .i (_x20.Rev = 0) (fun _h24 => .it _h24 (.it _h24 (.it _h24 (.it _h24
     (.it _h24 (.it _h24 (.it _h24 (.it _h24 (.it _h24 (.T (.q (Res.mk (.bool false) [] []) (by (clear again; (rw [known_no ‹_› (knows_rev ‹_›)])))))))))))))) (fun _h24 => .iF _h24 (.iF _h24 (.iF _h24
     (.iF _h24 (.iF _h24 (.iF _h24 (.c (@Tryz.c33 (_x20.Seen) (v.Item) ‹_›) (.iF _h24 (.c (@Tryz.c32 (headAt _x20.Seen v.Item) (v.S)) (.iF _h24 (.iF _h24 (.i ((headAt _x20.Seen v.Item).cmp v.S < 0)
     (fun _h25 => .q (Res.mk (.bool false) [] []) (by (clear again; (rw [known_no ‹_› (knows_cmp ‹_›)]))))
     (fun _h25 => .k ((↑(List.map encI _x20.Epochs).length : Int) < r.Size) ((↑_x20.Epochs.length : Int) < r.Size) (by simp only [List.length_map])
     (fun _h26 => .et ((↑(List.map encI _x20.Epochs).length : Int) < r.Size) (by simp only [List.length_map]) _h26
     (.et ((↑(List.map encI _x20.Epochs).length : Int) < r.Size) (by simp only [List.length_map]) _h26 (.et ((↑(List.map encI _x20.Epochs).length : Int) < r.Size) (by simp only [List.length_map]) _h26
     (.et ((↑(List.map encI _x20.Epochs).length : Int) < r.Size) (by simp only [List.length_map]) _h26 (.et ((↑(List.map encI _x20.Epochs).length : Int) < r.Size) (by simp only [List.length_map]) _h26 (.T
     (.q (Res.mk (.bool false) [] []) (by (clear again; (rw [known_no ‹_› (knows_len (by omega))]))))))))))
     (fun _h26 => .eF ((↑(List.map encI _x20.Epochs).length : Int) < r.Size) (by simp only [List.length_map]) _h26
     (.eF ((↑(List.map encI _x20.Epochs).length : Int) < r.Size) (by simp only [List.length_map]) _h26 (.eF ((↑(List.map encI _x20.Epochs).length : Int) < r.Size) (by simp only [List.length_map]) _h26
     (.eF ((↑(List.map encI _x20.Epochs).length : Int) < r.Size) (by simp only [List.length_map]) _h26 (.eF ((↑(List.map encI _x20.Epochs).length : Int) < r.Size) (by simp only [List.length_map]) _h26
     (.k ((↑(List.map encI (ownOf r.ID r.Views).Epochs).length : Int) < r.Size) ((↑(ownOf r.ID r.Views).Epochs.length : Int) < r.Size) (by simp only [List.length_map]) (fun _h27 => .q (Res.mk
     (.bool false) [] []) (by (clear again; (rw [known_no ‹_› (knows_len (by omega))])))) (fun _h27 => ?_))))))))))))))))))))))) (fun _h19 => .q (Res.mk
     (.bool kept) [] []) (by (clear again; (rw [List.take_of_length_le (by omega)] at hs hk; rw [hk]; unfold Repl.known; rw [hs]; rfl)))))
    obtain ⟨w,hw'⟩ : ∃ w,r.Views[i]? = some w := ⟨r.Views[i],by simp⟩
    have ew : _x20 = w := by rw [hw'] at _hx21; exact (Option.some.inj _hx21).symm
    subst ew
    have p1 := parse_ok _x20.Filter
    have p2 := parse_short _x20.Filter
    have hwl := hw _ (List.mem_of_getElem? hw')
    refine Sat.pLoop 12 (St.mk [(2,.ref (.head 2 0) 0 0),(3,.ref (.head 3 0) 0 0),(5,.bool kept),(6,.tree (List.map encI (ownOf r.ID r.Views).Epochs)),(7,.int .i64 (↑i : Int)),(8,.ref
     (.head 8 0) 0 0),(9,.int .i64 0)] [(.head 2 0,.box (encRepl r) true),(.head 3 0,.box (encVersion v) true),(.head 8 0,.box (encView _x20) true)]) (by kernel_rfl) (fun (k : Nat) => ⟨[(2,.ref
     (.head 2 0) 0 0),(3,.ref (.head 3 0) 0 0),(5,.bool kept),(6,.tree ((ownOf r.ID r.Views).Epochs.map encI)),(7,.int .i64 i),(8,.ref
     (.head 8 0) 0 0),(9,.int .i64 k)],[(.head 2 0,.box (encRepl r) true),(.head 3 0,.box (encVersion v) true),
     (.head 8 0,.box (encView _x20) true)]⟩) (fun k => k ≤ n ∧ epsIn _x20.Epochs (ownOf r.ID r.Views).Epochs k = true) (fun k => n - k) 0 rfl ?_ ?_
    · exact ⟨by omega,rfl⟩
    · intro k hI2 again2
      have hk1 := hI2.1
      have hk2 := hI2.2
      clear hI2
      refine (.i ((↑k : Int) < r.Size) (fun _h37 => .T (.em encI _x20.Epochs k (by omega) (fun _x38 _hx39 => .T (.em encI ((ownOf r.ID r.Views).Epochs) k (by omega) (fun _x40 _hx41 => .i (_x38 < _x40)
       (fun _h42 => .q (Res.mk (.bool false) [] []) (by (clear again again2; (rw [known_no ‹_› (knows_ep ‹_› ‹_› (by omega) ‹_›)]))))
       (fun _h42 => have _w43 := wI64' ((↑k : Int) + (1 : Int)); .A (St.mk [(2,.ref (.head 2 0) 0 0),(3,.ref
       (.head 3 0) 0 0),(5,.bool kept),(6,.tree (List.map encI (ownOf r.ID r.Views).Epochs)),(7,.int .i64 (↑i : Int)),(8,.ref
       (.head 8 0) 0 0),(9,.int .i64 (IntKind.i64.wrap ((↑k : Int) + 1)))] [(.head 2 0,.box (encRepl r) true),(.head 3 0,.box (encVersion v) true),
       (.head 8 0,.box (encView _x20) true)]) (by simp [encVersion,encView,encRepl,_w43]) (again2 (k + (1 : Nat)) ⟨(by omega),(by (clear again again2; (rw [epsIn_succ]; simp [*,List.getD]; done)))⟩ (by omega))))))))
       (fun _h37 => .c (@Tryz.c106 (_x20.Filter) ‹_›) (.n kept (fun _h44 => .t _h44 (.t _h44 (.t _h44 (have _w45 := wI64' ((↑i : Int) + (1 : Int)); .A (St.mk [(2,.ref (.head 2 0) 0 0),(3,.ref
       (.head 3 0) 0 0),(5,.bool true),(6,.tree (List.map encI (ownOf r.ID r.Views).Epochs)),(7,.int .i64 (IntKind.i64.wrap ((↑i : Int) + 1)))] [(.head 2 0,.box (encRepl r) true),
       (.head 3 0,.box (encVersion v) true)]) (by simp [encVersion,encRepl,_w45]) (again ((i + (1 : Nat),Bool.true)) ⟨(by dsimp only; omega),⟨(by dsimp only; (clear again again2; (refine all_take ‹_› hs (knows_yes ‹_› ‹_› (by omega) ?_); rw [hn2,show n = k by omega]; assumption))),(by dsimp only; (clear again again2; (rw [take_succ ‹_›,List.any_append,← hk,(by assumption : kept = true)]; rfl)))⟩⟩ (by dsimp only; omega))))))
       (fun _h44 => .f _h44 (.f _h44 (.c (@Tryz.c94 (v) ‹_› ‹_› ((parse _x20.Filter).fst) ‹_› ‹_›) (.f _h44 (have _w46 := wI64' ((↑i : Int) + (1 : Int)); .A (St.mk [(2,.ref (.head 2 0) 0 0),(3,.ref
       (.head 3 0) 0 0),(5,.bool (Flt.lets v (parse _x20.Filter).fst)),(6,.tree (List.map encI (ownOf r.ID r.Views).Epochs)),(7,.int .i64 (IntKind.i64.wrap ((↑i : Int) + 1)))] [(.head 2 0,.box (encRepl r) true),
       (.head 3 0,.box (encVersion v) true)]) (by simp [encVersion,encRepl,_w46]) (again ((i + (1 : Nat),Flt.lets v (parse _x20.Filter).fst)) ⟨(by dsimp only; omega),⟨(by dsimp only; (clear again again2; (refine all_take ‹_› hs (knows_yes ‹_› ‹_› (by omega) ?_); rw [hn2,show n = k by omega]; assumption))),(by dsimp only; (clear again again2; (rw [take_succ ‹_›,List.any_append,← hk,(by assumption : kept = false)]; simp)))⟩⟩ (by dsimp only; omega))))))))))
end Go.Ab.Tryz
