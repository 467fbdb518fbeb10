/- Package cardamomref20: who is beside whom, as plain Lean. -/
import Derived.Test.YtmppanboolejjaaGreatRef1f
import Derived.Test.YtmppanboolejjaaGreatG3
namespace Go.Ab.Tryz
open Go
set_option maxRecDepth 100000
set_option maxHeartbeats 4000000
theorem c78 (size : Nat) (edges : List Edge) (h0 : 1 ≤ size) (h5 : size ≤ 5) (hl : edges.length ≤ 100000) (he : ∀ e ∈ edges,1 ≤ e.A ∧ e.A ≤ size ∧ 1 ≤ e.B ∧ e.B ≤ size) : ∃ o : List Int,X.call 78 [.int .i64 size,.tree (edges.map encEdge),.int .i64 1] [] ⟨.tree (o.map encI),[],[]⟩ ∧ o.length = size := by
  refine spec_ex ok Go.Proofs.Tryz.func78 ok78 ?_
  refine
   (.k (0 ≤ (↑size : Int) ∧ (↑size : Int) ≤ (↑size : Int) ∧ (↑size : Int) ≤ 140737488355328 ∧ (↑size : Int) * (8 : Int) ≤ 140737488355328) (0 ≤ size ∧ size ≤ size ∧ size ≤ 140737488355328 ∧ (↑size : Int) * (8 : Int) ≤ 140737488355328) (by simp only [Int.ofNat_le,icLe,ciLe])
   (fun _h7 => ?_) (fun _h7 => False.elim (by omega)))
  refine SatE.pLoop 3 (St.mk [(0,.int .i64 (↑size : Int)),(1,.tree (List.map encEdge edges)),(2,.int .i64 1),(7,.sref
   (.head 7 0) 0 (↑size : Int).toNat),(8,.int .i64 0)] [(.head 7 0,.row 1 (List.replicate (↑size : Int).toNat
   (.int .i64 0)) true true)]) (by kernel_rfl) (fun (i : Nat) => ⟨[(0,.int .i64 size),(1,.tree (edges.map encEdge)),(2,.int .i64 1),(7,.sref
   (.head 7 0) 0 (farFill size i).length),(8,.int .i64 i)],[(.head 7 0,.row 1 ((farFill size i).map encI) true true)]⟩) (fun i => i ≤ size) (fun i => size - i) 0 (by (simp [farFill,encI]; done)) ?_ ?_
  · omega
  · intro i hi again
    have hf := farFill_len hi
    refine (.k ((↑i : Int) < (↑size : Int)) (i < size) (by simp only [Int.ofNat_lt])
     (fun _h12 => .k (0 ≤ (↑i : Int) ∧ (↑i : Int) < (↑(farFill size i).length : Int)) (0 ≤ i ∧ i < (farFill size i).length) (by simp only [Int.ofNat_lt,ciLe])
     (fun _h13 => .em encI (farFill size i) i (by omega)
     (fun _x14 _hx15 => have _w16 := wI64' ((↑i : Int) + (1 : Int)); .A (St.mk [(0,.int .i64 (↑size : Int)),(1,.tree (List.map encEdge edges)),(2,.int .i64 1),(7,.sref
     (.head 7 0) 0 (farFill size i).length),(8,.int .i64 (IntKind.i64.wrap ((↑i : Int) + 1)))] [(.head 7 0,.row 1 ((List.map encI (farFill size i)).set (↑i : Int).toNat
     (.int .i64 (-1 : Int))) true true)]) (by (clear again; (rw [← farFill_set (by omega)]; simp [encI, *]; done))) (again (i + (1 : Nat)) (by omega) (by omega)))) (fun _h13 => False.elim (by omega)))
     (fun _h12 => have _w17 := wI64' ((1 : Int) - (1 : Int)); .k (0 ≤ IntKind.i64.wrap (1 - 1) ∧ IntKind.i64.wrap (1 - 1) < (↑(farFill size i).length : Int)) ((0 : Int) ≤ 1 - 1 ∧ 1 - 1 < (↑(farFill size i).length : Int)) (by simp only [_w17])
     (fun _h18 => .em encI (farFill size i) 0 (by omega) (fun _x19 _hx20 => ?_)) (fun _h18 => False.elim (by omega))))
    have hi2 : i = size := by omega
    subst hi2
    rw [farFill_all] at *
    have hz := far_start (size := i) h0
    refine SatE.pLoop 8 (St.mk [(1,.tree (List.map encEdge edges)),(7,.sref
     (.head 7 0) 0 (List.replicate i (-1 : Int)).length),(9,.bool true)] [(.head 7 0,.row 1 ((List.map encI (List.replicate i (-1 : Int))).set 0
     (.int .i64 0)) true true)]) (by kernel_rfl) (fun (p : Bool × List Int) => ⟨[(1,.tree (edges.map encEdge)),(7,.sref
     (.head 7 0) 0 p.2.length),(9,.bool p.1)],[(.head 7 0,.row 1 (p.2.map encI) true true)]⟩) (fun p => p.2.length = i ∧ farOk p.2) (fun p => 2 * cost p.2 + p.1.toNat) (true,(List.replicate i (-1)).set 0 0) (by (simp [encI,farFill_all,List.map_set]; done)) ?_ ?_
    · exact ⟨by simp,hz⟩
    · rintro ⟨more,o⟩ hI again1
      obtain ⟨ho,hf⟩ := hI
      simp only at ho hf
      refine (.n more (fun _h34 => ?_) (fun _h34 => have _w35 : List.take o.length (List.map encI o) = List.map encI o := List.take_of_length_le (by simp); .q (Res.mk
       (.tree (List.take o.length (List.map encI o))) [] []) ⟨o,(by simp only [_w35]),(by (clear again again1; trivial))⟩))
      refine SatE.pLoop 11 (St.mk [(1,.tree (List.map encEdge edges)),(7,.sref
       (.head 7 0) 0 o.length),(9,.bool false),(10,.int .i64 0)] [(.head 7 0,.row 1 (List.map encI o) true true)]) (by kernel_rfl) (fun (p : Nat × Bool × List Int) => ⟨[(1,.tree (edges.map encEdge)),(7,.sref
       (.head 7 0) 0 p.2.2.length),(9,.bool p.2.1),(10,.int .i64 p.1)],[(.head 7 0,.row 1 (p.2.2.map encI) true true)]⟩) (fun p => p.1 ≤ edges.length ∧ p.2.2.length = i ∧ farOk p.2.2 ∧ cost p.2.2 + p.2.1.toNat ≤ cost o) (fun p => edges.length - p.1) (0,false,o) rfl ?_ ?_
      · exact ⟨by simp,ho,hf,by simp⟩
      · rintro ⟨j,more2,o2⟩ hJ again2
        obtain ⟨hj,ho2,hf2,hc2⟩ := hJ
        simp only at hj ho2 hf2 hc2
        refine (.kl encEdge edges j (fun _h44 => ?_)
         (fun _h44 => .a (again1 ((more2,o2)) ⟨(by show o2.length = i; omega),(by show farOk o2; omega)⟩ (by dsimp only; (clear again again1 again2; (rw [(by assumption : more = true)]; simp only [Bool.toNat_true]; omega))))))
        obtain ⟨e,hej⟩ : ∃ e,edges[j]? = some e := ⟨edges[j],by simp⟩
        have hee := he e (List.mem_of_getElem? hej)
        refine SatE.pLoop 14 (St.mk [(1,.tree (List.map encEdge edges)),(7,.sref
         (.head 7 0) 0 o2.length),(9,.bool more2),(10,.int .i64 (↑j : Int)),(11,.int .i64 0)] [(.head 7 0,.row 1 (List.map encI o2) true true)]) (by kernel_rfl) (fun (p : Nat × Bool × List Int) => ⟨[(1,.tree (edges.map encEdge)),(7,.sref
         (.head 7 0) 0 p.2.2.length),(9,.bool p.2.1),(10,.int .i64 j),(11,.int .i64 p.1)],[(.head 7 0,.row 1 (p.2.2.map encI) true true)]⟩) (fun p => p.1 ≤ 2 ∧ p.2.2.length = i ∧ farOk p.2.2 ∧ cost p.2.2 + p.2.1.toNat ≤ cost o) (fun p => 2 - p.1) (0,more2,o2) rfl ?_ ?_
        · exact ⟨by simp,ho2,hf2,hc2⟩
        · rintro ⟨k,more3,o3⟩ hK again3
          obtain ⟨hk,ho3,hf3,hc3⟩ := hK
          simp only at hk ho3 hf3 hc3
          have hcn := cnt_le o3
          unfold farOk at hf3
          refine (.k ((↑k : Int) < 2) (k < 2) (by simp only [icLt]) (fun _h58 => .T (.eh encEdge hej (SatE.pFin2 ((↑k : Int)) (by kernel_rfl) (by omega) (fun _h59 => .T (.eh encEdge hej
           (have _w60 := wI64' ((1 : Int) - (↑k : Int)); SatE.pFin2 (IntKind.i64.wrap ((1 : Int) - (↑k : Int))) (by kernel_rfl) (by omega) (fun _h61 => False.elim (by omega))
           (fun _h62 => have _w63 := wI64' (e.A - (1 : Int)); .k (0 ≤ IntKind.i64.wrap (e.A - 1) ∧ IntKind.i64.wrap (e.A - 1) < (↑o3.length : Int)) (0 ≤ e.A - 1 ∧ e.A - 1 < (↑o3.length : Int)) (by simp only [_w63])
           (fun _h64 => .eM encI o3 ((IntKind.i64.wrap (e.A - 1)).toNat) ((e.A - 1).toNat) (by simp only [_w63]) (by omega)
           (fun _x65 _hx66 => have _hc67 := (hf3 _x65 (List.mem_of_getElem? _hx66)).1; have _hc68 := (hf3 _x65 (List.mem_of_getElem? _hx66)).2; .i (0 ≤ _x65) (fun _h69 => .it _h69 (.it _h69
           (have _w70 := wI64' (e.B - (1 : Int)); .k (0 ≤ IntKind.i64.wrap (e.B - 1) ∧ IntKind.i64.wrap (e.B - 1) < (↑o3.length : Int)) (0 ≤ e.B - 1 ∧ e.B - 1 < (↑o3.length : Int)) (by simp only [_w70])
           (fun _h71 => .it _h69 (.eM encI o3 ((IntKind.i64.wrap (e.B - 1)).toNat) ((e.B - 1).toNat) (by simp only [_w70]) (by omega)
           (fun _x72 _hx73 => have _hc74 := (hf3 _x72 (List.mem_of_getElem? _hx73)).1; have _hc75 := (hf3 _x72 (List.mem_of_getElem? _hx73)).2; .it _h69 (.it _h69 (.i (_x72 < 0) (fun _h76 => .it _h76 (.it _h76
           (.it _h76 (.it _h76 (.it _h76 (.it _h76 (.it _h76 (.it _h76 (.it _h76 (.it _h69 (.it _h76 (.it _h69 (.T
           (.et (0 ≤ IntKind.i64.wrap (e.A - 1) ∧ IntKind.i64.wrap (e.A - 1) < (↑o3.length : Int)) (by simp only [_w63]) _h64 (.eH encI o3 ((IntKind.i64.wrap (e.A - 1)).toNat) (by simp only [_w63]) _hx66
           (.et (0 ≤ IntKind.i64.wrap (e.B - 1) ∧ IntKind.i64.wrap (e.B - 1) < (↑o3.length : Int)) (by simp only [_w70]) _h71 (.eH encI o3 ((IntKind.i64.wrap (e.B - 1)).toNat) (by simp only [_w70]) _hx73
           (have _w77 := wI64' ((↑k : Int) + (1 : Int)); have _w78 := wI64' (_x65 + (1 : Int)); .A (St.mk [(1,.tree (List.map encEdge edges)),(7,.sref
           (.head 7 0) 0 o3.length),(9,.bool true),(10,.int .i64 (↑j : Int)),(11,.int .i64 (IntKind.i64.wrap ((↑k : Int) + 1)))] [(.head 7 0,.row 1 ((List.map encI o3).set (IntKind.i64.wrap (e.B - 1)).toNat
           (.int .i64 (IntKind.i64.wrap (_x65 + 1)))) true true)]) (by simp [encI,_w78,_w77,_w70]) (again3 ((k + (1 : Nat),Bool.true,o3.set (e.B - (1 : Int)).toNat (_x65 + (1 : Int)))) ⟨(by dsimp only; omega),⟨(by dsimp only; (clear again again1 again2 again3; (simp; omega))),⟨(by dsimp only; (clear again again1 again2 again3; (exact (far_set hf3 ‹_› ‹_› (by omega) (by omega) (by omega)).1))),(by dsimp only; (clear again again1 again2 again3; (exact far_cost hf3 ‹_› ‹_› (by omega) (by omega) (by omega) hc3)))⟩⟩⟩ (by dsimp only; omega))))))))))))))))))))
           (fun _h76 => .iF _h76 (.iF _h76 (.et (0 ≤ IntKind.i64.wrap (e.B - 1) ∧ IntKind.i64.wrap (e.B - 1) < (↑o3.length : Int)) (by simp only [_w70]) _h71 (.iF _h76
           (.eH encI o3 ((IntKind.i64.wrap (e.B - 1)).toNat) (by simp only [_w70]) _hx73 (.iF _h76 (.iF _h76 (.iF _h76
           (.et (0 ≤ IntKind.i64.wrap (e.A - 1) ∧ IntKind.i64.wrap (e.A - 1) < (↑o3.length : Int)) (by simp only [_w63]) _h64 (.iF _h76
           (.eH encI o3 ((IntKind.i64.wrap (e.A - 1)).toNat) (by simp only [_w63]) _hx66 (.iF _h76 (.iF _h76 (.it _h69 (.iF _h76 (.it _h69
           (have _w79 := wI64' (_x65 + (1 : Int)); .k (IntKind.i64.wrap (_x65 + 1) < _x72) (_x65 + 1 < _x72) (by simp only [_w79])
           (fun _h80 => .et (0 ≤ IntKind.i64.wrap (e.A - 1) ∧ IntKind.i64.wrap (e.A - 1) < (↑o3.length : Int)) (by simp only [_w63]) _h64
           (.eH encI o3 ((IntKind.i64.wrap (e.A - 1)).toNat) (by simp only [_w63]) _hx66 (.et (0 ≤ IntKind.i64.wrap (e.B - 1) ∧ IntKind.i64.wrap (e.B - 1) < (↑o3.length : Int)) (by simp only [_w70]) _h71
           (.eH encI o3 ((IntKind.i64.wrap (e.B - 1)).toNat) (by simp only [_w70]) _hx73 (have _w81 := wI64' ((↑k : Int) + (1 : Int)); .A (St.mk [(1,.tree (List.map encEdge edges)),(7,.sref
           (.head 7 0) 0 o3.length),(9,.bool true),(10,.int .i64 (↑j : Int)),(11,.int .i64 (IntKind.i64.wrap ((↑k : Int) + 1)))] [(.head 7 0,.row 1 ((List.map encI o3).set (IntKind.i64.wrap (e.B - 1)).toNat
           (.int .i64 (IntKind.i64.wrap (_x65 + 1)))) true true)]) (by simp [encI,_w81,_w79,_w70]) (again3 ((k + (1 : Nat),Bool.true,o3.set (e.B - (1 : Int)).toNat (_x65 + (1 : Int)))) ⟨(by dsimp only; omega),⟨(by dsimp only; (clear again again1 again2 again3; (simp; omega))),⟨(by dsimp only; (clear again again1 again2 again3; (exact (far_set hf3 ‹_› ‹_› (by omega) (by omega) (by omega)).1))),(by dsimp only; (clear again again1 again2 again3; (exact far_cost hf3 ‹_› ‹_› (by omega) (by omega) (by omega) hc3)))⟩⟩⟩ (by dsimp only; omega)))))))
           (fun _h80 => have _w82 := wI64' ((↑k : Int) + (1 : Int)); .A (St.mk [(1,.tree (List.map encEdge edges)),(7,.sref
           (.head 7 0) 0 o3.length),(9,.bool more3),(10,.int .i64 (↑j : Int)),(11,.int .i64 (IntKind.i64.wrap ((↑k : Int) + 1)))] [(.head 7 0,.row 1 (List.map encI o3) true true)]) (by simp [_w82]) (again3 ((k + (1 : Nat),more3,o3)) ⟨(by dsimp only; omega),⟨(by show o3.length = i; omega),⟨(by show farOk o3; assumption),(by dsimp only; omega)⟩⟩⟩ (by dsimp only; omega)))))))))))))))))))))))))
           (fun _h71 => False.elim (by omega))))) (fun _h69 => .iF _h69 (.iF _h69 (.iF _h69 (.iF _h69 (.iF _h69 (.iF _h69 (.iF _h69 (.F
           (have _w83 := wI64' ((↑k : Int) + (1 : Int)); .A (St.mk [(1,.tree (List.map encEdge edges)),(7,.sref
           (.head 7 0) 0 o3.length),(9,.bool more3),(10,.int .i64 (↑j : Int)),(11,.int .i64 (IntKind.i64.wrap ((↑k : Int) + 1)))] [(.head 7 0,.row 1 (List.map encI o3) true true)]) (by simp [_w83]) (again3 ((k + (1 : Nat),more3,o3)) ⟨(by dsimp only; omega),⟨(by show o3.length = i; omega),⟨(by show farOk o3; assumption),(by dsimp only; omega)⟩⟩⟩ (by dsimp only; omega)))))))))))))
           (fun _h64 => False.elim (by omega)))))) (fun _h84 => .T (.eh encEdge hej (have _w85 := wI64' ((1 : Int) - (↑k : Int)); SatE.pFin2 (IntKind.i64.wrap ((1 : Int) - (↑k : Int))) (by kernel_rfl) (by omega)
           (fun _h86 => have _w87 := wI64' (e.B - (1 : Int)); .k (0 ≤ IntKind.i64.wrap (e.B - 1) ∧ IntKind.i64.wrap (e.B - 1) < (↑o3.length : Int)) (0 ≤ e.B - 1 ∧ e.B - 1 < (↑o3.length : Int)) (by simp only [_w87])
           (fun _h88 => .eM encI o3 ((IntKind.i64.wrap (e.B - 1)).toNat) ((e.B - 1).toNat) (by simp only [_w87]) (by omega)
           (fun _x89 _hx90 => have _hc91 := (hf3 _x89 (List.mem_of_getElem? _hx90)).1; have _hc92 := (hf3 _x89 (List.mem_of_getElem? _hx90)).2; .i (0 ≤ _x89) (fun _h93 => .it _h93 (.it _h93
           (have _w94 := wI64' (e.A - (1 : Int)); .k (0 ≤ IntKind.i64.wrap (e.A - 1) ∧ IntKind.i64.wrap (e.A - 1) < (↑o3.length : Int)) (0 ≤ e.A - 1 ∧ e.A - 1 < (↑o3.length : Int)) (by simp only [_w94])
           (fun _h95 => .it _h93 (.eM encI o3 ((IntKind.i64.wrap (e.A - 1)).toNat) ((e.A - 1).toNat) (by simp only [_w94]) (by omega)
           (fun _x96 _hx97 => have _hc98 := (hf3 _x96 (List.mem_of_getElem? _hx97)).1; have _hc99 := (hf3 _x96 (List.mem_of_getElem? _hx97)).2; .it _h93 (.it _h93 (.i (_x96 < 0) (fun _h100 => .it _h100 (.it _h100
           (.it _h100 (.it _h100 (.it _h100 (.it _h100 (.it _h100 (.it _h100 (.it _h100 (.it _h93 (.it _h100 (.it _h93 (.T
           (.et (0 ≤ IntKind.i64.wrap (e.B - 1) ∧ IntKind.i64.wrap (e.B - 1) < (↑o3.length : Int)) (by simp only [_w87]) _h88 (.eH encI o3 ((IntKind.i64.wrap (e.B - 1)).toNat) (by simp only [_w87]) _hx90
           (.et (0 ≤ IntKind.i64.wrap (e.A - 1) ∧ IntKind.i64.wrap (e.A - 1) < (↑o3.length : Int)) (by simp only [_w94]) _h95 (.eH encI o3 ((IntKind.i64.wrap (e.A - 1)).toNat) (by simp only [_w94]) _hx97
           (have _w101 := wI64' ((↑k : Int) + (1 : Int)); have _w102 := wI64' (_x89 + (1 : Int)); .A (St.mk [(1,.tree (List.map encEdge edges)),(7,.sref
           (.head 7 0) 0 o3.length),(9,.bool true),(10,.int .i64 (↑j : Int)),(11,.int .i64 (IntKind.i64.wrap ((↑k : Int) + 1)))] [(.head 7 0,.row 1 ((List.map encI o3).set (IntKind.i64.wrap (e.A - 1)).toNat
           (.int .i64 (IntKind.i64.wrap (_x89 + 1)))) true true)]) (by simp [encI,_w102,_w101,_w94]) (again3 ((k + (1 : Nat),Bool.true,o3.set (e.A - (1 : Int)).toNat (_x89 + (1 : Int)))) ⟨(by dsimp only; omega),⟨(by dsimp only; (clear again again1 again2 again3; (simp; omega))),⟨(by dsimp only; (clear again again1 again2 again3; (exact (far_set hf3 ‹_› ‹_› (by omega) (by omega) (by omega)).1))),(by dsimp only; (clear again again1 again2 again3; (exact far_cost hf3 ‹_› ‹_› (by omega) (by omega) (by omega) hc3)))⟩⟩⟩ (by dsimp only; omega))))))))))))))))))))
           (fun _h100 => .iF _h100 (.iF _h100 (.et (0 ≤ IntKind.i64.wrap (e.A - 1) ∧ IntKind.i64.wrap (e.A - 1) < (↑o3.length : Int)) (by simp only [_w94]) _h95 (.iF _h100
           (.eH encI o3 ((IntKind.i64.wrap (e.A - 1)).toNat) (by simp only [_w94]) _hx97 (.iF _h100 (.iF _h100 (.iF _h100
           (.et (0 ≤ IntKind.i64.wrap (e.B - 1) ∧ IntKind.i64.wrap (e.B - 1) < (↑o3.length : Int)) (by simp only [_w87]) _h88 (.iF _h100
           (.eH encI o3 ((IntKind.i64.wrap (e.B - 1)).toNat) (by simp only [_w87]) _hx90 (.iF _h100 (.iF _h100 (.it _h93 (.iF _h100 (.it _h93
           (have _w103 := wI64' (_x89 + (1 : Int)); .k (IntKind.i64.wrap (_x89 + 1) < _x96) (_x89 + 1 < _x96) (by simp only [_w103])
           (fun _h104 => .et (0 ≤ IntKind.i64.wrap (e.B - 1) ∧ IntKind.i64.wrap (e.B - 1) < (↑o3.length : Int)) (by simp only [_w87]) _h88
           (.eH encI o3 ((IntKind.i64.wrap (e.B - 1)).toNat) (by simp only [_w87]) _hx90 (.et (0 ≤ IntKind.i64.wrap (e.A - 1) ∧ IntKind.i64.wrap (e.A - 1) < (↑o3.length : Int)) (by simp only [_w94]) _h95
           (.eH encI o3 ((IntKind.i64.wrap (e.A - 1)).toNat) (by simp only [_w94]) _hx97 (have _w105 := wI64' ((↑k : Int) + (1 : Int)); .A (St.mk [(1,.tree (List.map encEdge edges)),(7,.sref
           (.head 7 0) 0 o3.length),(9,.bool true),(10,.int .i64 (↑j : Int)),(11,.int .i64 (IntKind.i64.wrap ((↑k : Int) + 1)))] [(.head 7 0,.row 1 ((List.map encI o3).set (IntKind.i64.wrap (e.A - 1)).toNat
           (.int .i64 (IntKind.i64.wrap (_x89 + 1)))) true true)]) (by simp [encI,_w105,_w103,_w94]) (again3 ((k + (1 : Nat),Bool.true,o3.set (e.A - (1 : Int)).toNat (_x89 + (1 : Int)))) ⟨(by dsimp only; omega),⟨(by dsimp only; (clear again again1 again2 again3; (simp; omega))),⟨(by dsimp only; (clear again again1 again2 again3; (exact (far_set hf3 ‹_› ‹_› (by omega) (by omega) (by omega)).1))),(by dsimp only; (clear again again1 again2 again3; (exact far_cost hf3 ‹_› ‹_› (by omega) (by omega) (by omega) hc3)))⟩⟩⟩ (by dsimp only; omega)))))))
           (fun _h104 => have _w106 := wI64' ((↑k : Int) + (1 : Int)); .A (St.mk [(1,.tree (List.map encEdge edges)),(7,.sref
           (.head 7 0) 0 o3.length),(9,.bool more3),(10,.int .i64 (↑j : Int)),(11,.int .i64 (IntKind.i64.wrap ((↑k : Int) + 1)))] [(.head 7 0,.row 1 (List.map encI o3) true true)]) (by simp [_w106]) (again3 ((k + (1 : Nat),more3,o3)) ⟨(by dsimp only; omega),⟨(by show o3.length = i; omega),⟨(by show farOk o3; assumption),(by dsimp only; omega)⟩⟩⟩ (by dsimp only; omega)))))))))))))))))))))))))
           (fun _h95 => False.elim (by omega))))) (fun _h93 => .iF _h93 (.iF _h93 (.iF _h93 (.iF _h93 (.iF _h93 (.iF _h93 (.iF _h93 (.F
           (have _w107 := wI64' ((↑k : Int) + (1 : Int)); .A (St.mk [(1,.tree (List.map encEdge edges)),(7,.sref
           (.head 7 0) 0 o3.length),(9,.bool more3),(10,.int .i64 (↑j : Int)),(11,.int .i64 (IntKind.i64.wrap ((↑k : Int) + 1)))] [(.head 7 0,.row 1 (List.map encI o3) true true)]) (by simp [_w107]) (again3 ((k + (1 : Nat),more3,o3)) ⟨(by dsimp only; omega),⟨(by show o3.length = i; omega),⟨(by show farOk o3; assumption),(by dsimp only; omega)⟩⟩⟩ (by dsimp only; omega)))))))))))))
           (fun _h88 => False.elim (by omega))) (fun _h108 => False.elim (by omega)))))))) (fun _h58 => have _w109 := wI64' ((↑j : Int) + (1 : Int)); .A (St.mk [(1,.tree (List.map encEdge edges)),(7,.sref
           (.head 7 0) 0 o3.length),(9,.bool more3),(10,.int .i64 (IntKind.i64.wrap ((↑j : Int) + 1)))] [(.head 7 0,.row 1 (List.map encI o3) true true)]) (by simp [_w109]) (again2 ((j + (1 : Nat),more3,o3)) ⟨(by dsimp only; omega),⟨(by show o3.length = i; omega),⟨(by show farOk o3; assumption),(by dsimp only; omega)⟩⟩⟩ (by dsimp only; omega))))
theorem c45 (size : Int) (edges : List Edge) (hl : edges.length ≤ 100000) : ∃ b : Bool,X.call 45 [.int .i64 size,.tree (edges.map encEdge)] [] ⟨.bool b,[],[]⟩ ∧ (b = true → 1 ≤ size ∧ size ≤ 5 ∧ ∀ e ∈ edges,1 ≤ e.A ∧ e.A < e.B ∧ e.B ≤ size) := by
  rcases Int.lt_or_le size 1 with h | h
  · refine spec_ex ok Go.Proofs.Tryz.func45 ok45 ?_
    refine (.it h (.it h (.it h (.T (.r false (by simp))))))
  · obtain ⟨n,rfl⟩ := Int.eq_ofNat_of_zero_le (by omega : 0 ≤ size)
    refine spec_ex ok Go.Proofs.Tryz.func45 ok45 ?_
    refine (.k ((↑n : Int) < 1) (n < 1) (by simp only [icLt]) (fun _h7 => False.elim (by omega)) (fun _h7 => .eF ((↑n : Int) < 1) (by simp only [icLt]) _h7 (.eF ((↑n : Int) < 1) (by simp only [icLt]) _h7
     (.k (5 < (↑n : Int)) (5 < n) (by simp only [ciLt]) (fun _h8 => .r false (by simp)) (fun _h8 => ?_)))))
    refine SatE.pLoop 4 (St.mk [(0,.int .i64 (↑n : Int)),(1,.tree (List.map encEdge edges)),(5,.int .i64 0)] []) (by kernel_rfl) (fun (k : Nat) => ⟨[(0,.int .i64 n),(1,.tree (edges.map encEdge)),(5,.int .i64 k)],[]⟩) (fun k => k ≤ edges.length ∧ ∀ e ∈ edges.take k,1 ≤ e.A ∧ e.A < e.B ∧ e.B ≤ n) (fun k => edges.length - k) 0 rfl ?_ ?_
    · simp
    · intro k hI again
      have hk := hI.1
      have hs := hI.2
      clear hI
      refine (.kl encEdge edges k (fun _h14 => .T (.em encEdge edges k ‹_› (fun _x15 _hx16 => SatE.pFin ((0 : Int)) 2 (0) (by kernel_rfl) rfl (by decide) (.i (_x15.A < 1) (fun _h17 => .it _h17 (.it _h17
       (.it _h17 (.it _h17 (.T (.T (.T (.T (.T (.T (.T (.r false (by simp))))))))))))) (fun _h17 => SatE.pFin ((1 : Int)) 2 (1) (by kernel_rfl) rfl (by decide) (.iF _h17 (.iF _h17 (.iF _h17 (.iF _h17
       (.i ((↑n : Int) < _x15.B) (fun _h18 => .it _h18 (.it _h18 (.it _h18 (.it _h18 (.it _h18 (.T (.r false (by simp)))))))) (fun _h18 => SatE.pFin ((0 : Int)) 2 (0) (by kernel_rfl) rfl (by decide) (.iF _h18
       (.iF _h18 (SatE.pFin ((1 : Int)) 2 (1) (by kernel_rfl) rfl (by decide) (.iF _h18 (.iF _h18 (.iF _h18 (.i (_x15.B ≤ _x15.A) (fun _h19 => .r false (by simp))
       (fun _h19 => .k (0 < (↑k : Int)) (0 < k) (by simp only [ciLt]) (fun _h20 => .et (0 < (↑k : Int)) (by simp only [ciLt]) _h20 (.et (0 < (↑k : Int)) (by simp only [ciLt]) _h20
       (.et (0 < (↑k : Int)) (by simp only [ciLt]) _h20 (have _w21 := wI64' ((↑k : Int) - (1 : Int)); .k (0 ≤ IntKind.i64.wrap ((↑k : Int) - 1)) (0 ≤ (↑k : Int) - 1) (by simp only [_w21])
       (fun _h22 => .eM encEdge edges ((IntKind.i64.wrap ((↑k : Int) - 1)).toNat) (((↑k : Int) - 1).toNat) (by simp only [_w21]) (by omega) (fun _x23 _hx24 => .et (0 < (↑k : Int)) (by simp only [ciLt]) _h20
       (SatE.pFin ((0 : Int)) 2 (0) (by kernel_rfl) rfl (by decide) (.et (0 < (↑k : Int)) (by simp only [ciLt]) _h20 (.et (0 < (↑k : Int)) (by simp only [ciLt]) _h20
       (SatE.pFin ((0 : Int)) 2 (0) (by kernel_rfl) rfl (by decide) (.et (0 < (↑k : Int)) (by simp only [ciLt]) _h20 (.et (0 < (↑k : Int)) (by simp only [ciLt]) _h20
       (.et (0 < (↑k : Int)) (by simp only [ciLt]) _h20 (.i (_x15.A < _x23.A) (fun _h25 => .it _h25 (.it _h25 (.it _h25 (.it _h25 (.it _h25 (.it _h25 (.it _h25 (.it _h25 (.it _h25 (.it _h25
       (.et (0 < (↑k : Int)) (by simp only [ciLt]) _h20 (.it _h25 (.et (0 < (↑k : Int)) (by simp only [ciLt]) _h20 (.T (.r false (by simp)))))))))))))))) (fun _h25 => .iF _h25 (.iF _h25 (.iF _h25
       (.et (0 ≤ IntKind.i64.wrap ((↑k : Int) - 1)) (by simp only [_w21]) _h22 (.eH encEdge edges ((IntKind.i64.wrap ((↑k : Int) - 1)).toNat) (by simp only [_w21]) _hx24 (.iF _h25
       (SatE.pFin ((0 : Int)) 2 (0) (by kernel_rfl) rfl (by decide) (.iF _h25 (.iF _h25 (SatE.pFin ((0 : Int)) 2 (0) (by kernel_rfl) rfl (by decide) (.iF _h25 (.iF _h25 (.iF _h25 (.i (_x23.A = _x15.A)
       (fun _h26 => .it _h26 (.it _h26 (.it _h26 (.et (0 ≤ IntKind.i64.wrap ((↑k : Int) - 1)) (by simp only [_w21]) _h22
       (.eH encEdge edges ((IntKind.i64.wrap ((↑k : Int) - 1)).toNat) (by simp only [_w21]) _hx24 (.it _h26 (SatE.pFin ((1 : Int)) 2 (1) (by kernel_rfl) rfl (by decide) (.it _h26 (.it _h26
       (SatE.pFin ((1 : Int)) 2 (1) (by kernel_rfl) rfl (by decide) (.it _h26 (.it _h26 (.iF _h25 (.it _h26 (.et (0 < (↑k : Int)) (by simp only [ciLt]) _h20 (.iF _h25
       (.et (0 < (↑k : Int)) (by simp only [ciLt]) _h20 (.i (_x15.B ≤ _x23.B) (fun _h27 => .r false (by simp))
       (fun _h27 => have _w28 := wI64' ((↑k : Int) + (1 : Int)); .A (St.mk [(0,.int .i64 (↑n : Int)),(1,.tree (List.map encEdge edges)),(5,.int .i64 (IntKind.i64.wrap ((↑k : Int) + 1)))] []) (by simp [_w28]) (again (k + (1 : Nat)) ⟨(by omega),(by (clear again; (intro x hx; rw [take_succ ‹_›] at hx; rcases List.mem_append.1 hx with h | h; exact hs x h; simp only [List.mem_singleton] at h; subst h; omega)))⟩ (by omega)))))))))))))))))))))
       (fun _h26 => .iF _h26 (.iF _h26 (.iF _h26 (.iF _h26 (.iF _h26 (.iF _h26 (.iF _h26 (.iF _h26 (.iF _h25 (.iF _h26 (.et (0 < (↑k : Int)) (by simp only [ciLt]) _h20 (.iF _h25
       (.et (0 < (↑k : Int)) (by simp only [ciLt]) _h20 (.F
       (have _w29 := wI64' ((↑k : Int) + (1 : Int)); .A (St.mk [(0,.int .i64 (↑n : Int)),(1,.tree (List.map encEdge edges)),(5,.int .i64 (IntKind.i64.wrap ((↑k : Int) + 1)))] []) (by simp [_w29]) (again (k + (1 : Nat)) ⟨(by omega),(by (clear again; (intro x hx; rw [take_succ ‹_›] at hx; rcases List.mem_append.1 hx with h | h; exact hs x h; simp only [List.mem_singleton] at h; subst h; omega)))⟩ (by omega)))))))))))))))))))))))))))))))))))))))))
       (fun _h22 => False.elim (by omega)))))) (fun _h20 => .eF (0 < (↑k : Int)) (by simp only [ciLt]) _h20 (.eF (0 < (↑k : Int)) (by simp only [ciLt]) _h20 (.eF (0 < (↑k : Int)) (by simp only [ciLt]) _h20
       (.eF (0 < (↑k : Int)) (by simp only [ciLt]) _h20 (.eF (0 < (↑k : Int)) (by simp only [ciLt]) _h20 (.eF (0 < (↑k : Int)) (by simp only [ciLt]) _h20 (.eF (0 < (↑k : Int)) (by simp only [ciLt]) _h20
       (.eF (0 < (↑k : Int)) (by simp only [ciLt]) _h20 (.eF (0 < (↑k : Int)) (by simp only [ciLt]) _h20 (.eF (0 < (↑k : Int)) (by simp only [ciLt]) _h20 (.eF (0 < (↑k : Int)) (by simp only [ciLt]) _h20 (.F
       (have _w30 := wI64' ((↑k : Int) + (1 : Int)); .A (St.mk [(0,.int .i64 (↑n : Int)),(1,.tree (List.map encEdge edges)),(5,.int .i64 (IntKind.i64.wrap ((↑k : Int) + 1)))] []) (by simp [_w30]) (again (k + (1 : Nat)) ⟨(by omega),(by (clear again; (intro x hx; rw [take_succ ‹_›] at hx; rcases List.mem_append.1 hx with h | h; exact hs x h; simp only [List.mem_singleton] at h; subst h; omega)))⟩ (by omega))))))))))))))))))))))))))))))))))
       (fun _h14 => Exists.elim (@Tryz.c78 (n) (edges) (by omega) (by omega) ‹_› (by (clear again; (intro x hx; have := hs x (by rw [List.take_of_length_le (by omega)]; exact hx); omega))))
       (fun _y31 ⟨_hz32,_hc33⟩ => .c _hz32 ?_)))
      have hall : ∀ e ∈ edges,1 ≤ e.A ∧ e.A < e.B ∧ e.B ≤ (n : Int) := by rw [List.take_of_length_le (by omega)] at hs; exact hs
      refine SatE.pLoop 13 (St.mk [(0,.int .i64 (↑n : Int)),(7,.tree (List.map encI _y31)),(8,.int .i64 0)] []) (by kernel_rfl) (fun (i : Nat) => ⟨[(0,.int .i64 n),(7,.tree (_y31.map encI)),(8,.int .i64 i)],[]⟩) (fun i => i ≤ n) (fun i => n - i) 0 rfl ?_ ?_
      · omega
      · intro i hi again2
        refine (.k ((↑i : Int) < (↑n : Int)) (i < n) (by simp only [Int.ofNat_lt]) (fun _h22 => .T (.em encI _y31 i (by omega) (fun _x23 _hx24 => .i (_x23 < 0) (fun _h25 => .r false (by simp))
         (fun _h25 => have _w26 := wI64' ((↑i : Int) + (1 : Int)); .A (St.mk [(0,.int .i64 (↑n : Int)),(7,.tree (List.map encI _y31)),(8,.int .i64 (IntKind.i64.wrap ((↑i : Int) + 1)))] []) (by simp [_w26]) (again2 (i + (1 : Nat)) (by omega) (by omega))))))
         (fun _h22 => .r true (by (clear again again2; (simp_all; omega)))))
end Go.Ab.Tryz
