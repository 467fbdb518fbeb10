/- Package cardamomlaw27: it is nought just where all is known. -/
import Derived.Test.YtmppanboolejjaaGreatPlay5
import Derived.Test.YtmppanboolejjaaGreatRank5
import Derived.Test.YtmppanboolejjaaGreatRef25b
import Derived.Test.YtmppanboolejjaaGreatRef25g
import Derived.Test.YtmppanboolejjaaGreatLaw27b
import Derived.Test.YtmppanboolejjaaGreatG3
namespace Go.Ab.Tryz
open Go
set_option maxRecDepth 100000
set_option maxHeartbeats 4000000
abbrev RunsOk (B : Int) (k : Nat) (m : Mesh) : Prop := (∃ size,m.Ok size B k) ∨ m = Mesh.zero
theorem round_ok {B : Int} {k : Nat} {m : Mesh} (h : RunsOk B k m) (h0 : 1000000 ≤ B) (h1 : B ≤ 2000000) : ∃ m',X.call 14 [encMesh m] [] ⟨encMesh m',[],[]⟩ ∧ RunsOk (B + 100) k m' := by
  rcases h with ⟨size,h⟩ | rfl
  · obtain ⟨m',c,h'⟩ := round_ex m size k B h h0 (by omega)
    exact ⟨m',c,.inl ⟨size,h'⟩⟩
  · exact ⟨Mesh.zero,ev_ok envOk 1000 _ _ _ _ (by kernel_rfl),.inr rfl⟩
theorem rank_zero (m : Mesh) (size k : Nat) (B : Int) (h : m.Ok size B k) (hB : B ≤ 10000000) (hk : k ≤ 800) : ∃ c : Int,X.call 19 [encMesh m] [] ⟨.int .i64 c,[],[]⟩ ∧ (c = 0 ↔ lackAll m.Repls m.Repls.length = 0 ∧ ∀ a ∈ m.Repls,a.own.Seen = headsM m.Issued) :=
  ⟨_,c19 m size k B h (by omega) hk,h.rank hB⟩
theorem take_step {l k : List Head} {i : Nat} {x y : Head} (hx : l[i]? = some x) (hy : k[i]? = some y) : (l.take (i + 1) = k.take (i + 1)) ↔ (l.take i = k.take i ∧ x = y) := by
  rw [take_succ hx,take_succ hy]
  constructor
  · intro h
    have h1 := (List.getElem?_eq_some_iff.1 hx).1
    have h2 := (List.getElem?_eq_some_iff.1 hy).1
    obtain ⟨e1,e2⟩ := List.append_inj h (by simp; omega)
    exact ⟨e1,by simpa using e2⟩
  · rintro ⟨e1,rfl⟩; rw [e1]
def SoFar (rs : List Repl) (H : List Head) (r : Nat) : Prop := lackAll rs r = 0 ∧ ∀ x ∈ rs.take r,x.own.Seen = H
instance (rs : List Repl) (H : List Head) (r : Nat) : Decidable (SoFar rs H r) := by unfold SoFar; infer_instance
theorem row_end {rs : List Repl} {a : Repl} {r i : Nat} {H : List Head} {z z2 z3 z4 : Bool} (ha : rs[r]? = some a) (hz : z = decide (SoFar rs H r)) (h2 : z2 = (z && decide (lackRow rs a rs.length = 0))) (h3 : z3 = (z2 && decide (a.own.Seen.length = H.length))) (h4 : z4 = (z3 && decide (a.own.Seen.take i = H.take i))) (hi : a.own.Seen.length ≤ i ∨ H.length ≤ i) : z4 = decide (SoFar rs H (r + 1)) := by
  subst h4; subst h3; subst h2; subst hz
  rw [Bool.eq_iff_iff]
  simp only [Bool.and_eq_true,decide_eq_true_eq]
  unfold SoFar
  rw [zero_all ha,take_succ ha]
  constructor
  · rintro ⟨⟨⟨⟨e1,e2⟩,e3⟩,e4⟩,e5⟩
    refine ⟨⟨e1,e3⟩,fun x hx => ?_⟩
    rcases List.mem_append.1 hx with hx | hx
    · exact e2 x hx
    · rw [List.mem_singleton.1 hx]
      rw [List.take_of_length_le (by omega),List.take_of_length_le (by omega)] at e5
      exact e5
  · rintro ⟨⟨e1,e2⟩,e3⟩
    have e4 := e3 a (List.mem_append_right _ (by simp))
    exact ⟨⟨⟨⟨e1,fun x hx => e3 x (List.mem_append_left _ hx)⟩,e2⟩,by rw [e4]⟩,by rw [e4]⟩
theorem c4 (l : List UInt8) (y : UInt8) : X.call 4 [.tree (l.map encB),encB y] [] ⟨.bool true,[],[]⟩ := by
  by_cases hl : l.length ≤ 200
  · obtain ⟨m0,p2,c2,o2,l2⟩ := mesh_ex ⟨l,0⟩ (by simp only; omega) 6
    obtain ⟨⟨m,p3⟩,c3,o3,l3⟩ := run_ex m0 o2 p2 l2 40 (by omega)
    simp only at c3 o3 l3
    have r0 : RunsOk (1000000 + ((40 : Nat) : Int)) 40 m := o3
    clear o2 o3 l2 l3
    refine spec_of ok Go.Proofs.Tryz.func4 ok4 ?_
    refine (.c (@Tryz.c9) (.F (.k (200 < (↑(List.map encB l).length : Int)) (200 < l.length) (by simp only [List.length_map,ciLt]) (fun _h15 => False.elim (by omega)) (fun _h15 => .c (@Tryz.c10 (l))
     (.c (@c2) (.c (@c3) (have _u16 : y.toNat < (256 : Nat) := UInt8.toNat_lt _; ?_)))))))
    refine Sat.pLoop 8 (St.mk [(1,.int .u8 (↑y.toNat : Int)),(6,.ref
     (.head 6 0) 0 0),(7,.int .i64 0)] [(.head 6 0,.box (encMesh m) true)]) (by kernel_rfl) (fun (p : Nat × Mesh) => ⟨[(1,.int .u8 y.toNat),(6,.ref
     (.head 6 0) 0 0),(7,.int .i64 p.1)],[(.head 6 0,.box (encMesh p.2) true)]⟩) (fun p => p.1 ≤ y.toNat % 12 ∧ RunsOk (1000000 + ((40 : Nat) : Int) + 100 * p.1) 40 p.2) (fun p => 12 - p.1) (0,m) rfl ?_ ?_
    · exact ⟨by simp,by simpa using r0⟩
    · rintro ⟨i,w⟩ hI again
      obtain ⟨i1,i2⟩ := hI
      simp only at i1 i2
      obtain ⟨w2,cR,ok2⟩ := round_ok i2 (by omega) (by omega)
      rw [show (1000000 : Int) + ((40 : Nat) : Int) + 100 * (i : Int) + 100 = 1000000 + ((40 : Nat) : Int) + 100 * ((i + 1 : Nat) : Int) by omega] at ok2
      rcases i2 with ⟨size,h⟩ | rfl
      · obtain ⟨c,cK,hc⟩ := rank_zero w size 40 _ h (by omega) (by omega)
        have hz := h.sz
        have hs5 := h.s5
        have hrl := h.rl
        have hil := h.il
        have cH := c21 w (by omega)
        refine (.T
         (have _u37 : y.toNat < (256 : Nat) := UInt8.toNat_lt _; have _w38 : (↑y.toNat : Int).tmod (12 : Int) = (↑y.toNat : Int) % (12 : Int) := Int.tmod_eq_emod_of_nonneg (by omega); have _w39 := wI64' ((↑y.toNat : Int) % (12 : Int)); .k ((↑i : Int) < IntKind.i64.wrap ((↑y.toNat : Int).tmod 12)) ((↑i : Int) < (↑y.toNat : Int) % 12) (by simp only [_w39,_w38])
         (fun _h40 => .c (@cR) (have _w41 := wI64' ((↑i : Int) + (1 : Int)); .A (St.mk [(1,.int .u8 (↑y.toNat : Int)),(6,.ref
         (.head 6 0) 0 0),(7,.int .i64 (IntKind.i64.wrap ((↑i : Int) + 1)))] [(.head 6 0,.box (encMesh w2) true)]) (by simp [encMesh,_w41]) (again ((i + (1 : Nat),Mesh.mk w2.Size w2.Batch w2.Edges w2.Repls w2.Fly w2.Issued)) (by (clear c2 c3 again cR cK cH; (dsimp only; (refine ⟨?_, ?_⟩ <;> omega)))) (by (clear c2 c3 again cR cK cH; (dsimp only; omega))))))
         (fun _h40 => ?_)))
        clear ok2
        refine Sat.pLoop 13 (St.mk [(6,.ref (.head 6 0) 0 0),(8,.bool true),(9,.int .i64 0)] [(.head 6 0,.box (encMesh w) true)]) (by kernel_rfl) (fun (p : Nat × Bool) => ⟨[(6,.ref
         (.head 6 0) 0 0),(8,.bool p.2),(9,.int .i64 p.1)],[(.head 6 0,.box (encMesh w) true)]⟩) (fun p => p.1 ≤ w.Repls.length ∧ p.2 = decide (SoFar w.Repls (headsM w.Issued) p.1)) (fun p => w.Repls.length - p.1) (0,true) rfl ?_ ?_
        · exact ⟨by simp,by simp [SoFar,lackAll]⟩
        · rintro ⟨r,z⟩ hJ again2
          obtain ⟨j1,j2⟩ := hJ
          simp only at j1 j2
          by_cases hr : r < w.Repls.length
          · obtain ⟨a,ha⟩ : ∃ a,w.Repls[r]? = some a := ⟨w.Repls[r],by simp⟩
            obtain ⟨oa,ida⟩ := h.rs _ _ ha
            have hva := oa.own_at
            rw [show (a.ID - 1).toNat = r by omega] at hva
            have hsl := headsMay_len (by omega) oa.own_ok.s
            have hhl := headsMay_len (by omega) (headsM_may h.iv)
            have lea := oa.own_el
            refine (.i ((↑r : Int) < w.Size) (fun _h57 => .T (.eh encRepl ha (.T (.eh encView hva ?_)))) (fun _h57 => False.elim (by omega)))
            refine Sat.pLoop 17 (St.mk [(6,.ref (.head 6 0) 0 0),(8,.bool z),(9,.int .i64 (↑r : Int)),(10,.ref (.head 10 0) 0 0),(11,.int .i64 0)] [(.head 6 0,.box (encMesh w) true),
             (.head 10 0,.box (encView a.own) true)]) (by kernel_rfl) (fun (p : Nat × Bool) => ⟨[(6,.ref (.head 6 0) 0 0),(8,.bool p.2),(9,.int .i64 r),(10,.ref
             (.head 10 0) 0 0),(11,.int .i64 p.1)],[(.head 6 0,.box (encMesh w) true),
             (.head 10 0,.box (encView a.own) true)]⟩) (fun p => p.1 ≤ w.Repls.length ∧ p.2 = (z && decide (lackRow w.Repls a p.1 = 0))) (fun p => w.Repls.length - p.1) (0,z) rfl ?_ ?_
            · exact ⟨by simp,by simp [lackRow]⟩
            · rintro ⟨q,z2⟩ hJ2 again3
              obtain ⟨k1,k2⟩ := hJ2
              simp only at k1 k2
              by_cases hq : q < w.Repls.length
              · obtain ⟨b,hb⟩ : ∃ b,w.Repls[q]? = some b := ⟨w.Repls[q],by simp⟩
                obtain ⟨ob,idb⟩ := h.rs _ _ hb
                have hvb := ob.own_at
                rw [show (b.ID - 1).toNat = q by omega] at hvb
                have leb := ob.own_el
                obtain ⟨ea,hea⟩ : ∃ x,a.own.Epochs[q]? = some x := ⟨a.own.Epochs[q]'(by omega),by simp⟩
                obtain ⟨eb,heb⟩ : ∃ x,b.own.Epochs[q]? = some x := ⟨b.own.Epochs[q]'(by omega),by simp⟩
                have hzr := zero_row hb hea heb
                have hz2 : (z && decide (lackRow w.Repls a (q + 1) = 0)) = (z2 && decide (eb ≤ ea)) := by
                  rw [k2,Bool.and_assoc]; congr 1
                  rw [← Bool.decide_and]; exact decide_eq_decide.2 hzr
                clear k2 hzr
                refine (.i ((↑q : Int) < w.Size) (fun _h78 => .n z2 (fun _h79 => .t _h79 (.t _h79 (.t _h79 (.T (.eh encI hea (.t _h79 (.t _h79 (.t _h79 (.t _h79 (.t _h79 (.T (.eh encRepl hb (.t _h79 (.t _h79 (.t _h79
                 (.t _h79 (.T (.eh encView hvb (.t _h79 (.t _h79 (.t _h79 (.t _h79 (.T (.eh encI heb (.t _h79 (.t _h79 (.t _h79 (have _w80 := wI64' ((↑q : Int) + (1 : Int)); .A (St.mk [(6,.ref
                 (.head 6 0) 0 0),(8,.bool (decide (eb ≤ ea))),(9,.int .i64 (↑r : Int)),(10,.ref (.head 10 0) 0 0),(11,.int .i64 (IntKind.i64.wrap ((↑q : Int) + 1)))] [(.head 6 0,.box (encMesh w) true),
                 (.head 10 0,.box (encView a.own) true)]) (by simp [encView,encMesh,_w80]) (again3 ((q + (1 : Nat),decide (eb ≤ ea))) ⟨(by dsimp only; omega),(by dsimp only; (clear c2 c3 again cR cK cH again2 again3; (rw [hz2]; simp [*]; done)))⟩ (by dsimp only; omega))))))))))))))))))))))))))))))
                 (fun _h79 => .f _h79 (.f _h79 (.f _h79 (.f _h79 (.f _h79 (.f _h79 (.f _h79 (.f _h79 (.f _h79 (.f _h79 (.f _h79 (.f _h79 (.f _h79 (.f _h79 (.f _h79 (.f _h79 (.f _h79 (.f _h79 (.f _h79
                 (have _w81 := wI64' ((↑q : Int) + (1 : Int)); .A (St.mk [(6,.ref (.head 6 0) 0 0),(8,.bool false),(9,.int .i64 (↑r : Int)),(10,.ref
                 (.head 10 0) 0 0),(11,.int .i64 (IntKind.i64.wrap ((↑q : Int) + 1)))] [(.head 6 0,.box (encMesh w) true),
                 (.head 10 0,.box (encView a.own) true)]) (by simp [encView,encMesh,_w81]) (again3 ((q + (1 : Nat),Bool.false)) ⟨(by dsimp only; omega),(by dsimp only; (clear c2 c3 again cR cK cH again2 again3; (rw [hz2]; simp [*]; done)))⟩ (by dsimp only; omega)))))))))))))))))))))))
                 (fun _h78 => False.elim (by omega)))
              · have hz2 : z2 = (z && decide (lackRow w.Repls a w.Repls.length = 0)) := by rw [k2,show q = w.Repls.length by omega]
                clear k2
                generalize hH : headsM w.Issued = H at *
                have again_s : ∀ (z3 : Bool) (hz3 : z3 = (z2 && decide (a.own.Seen.length = H.length))),Sat X 4 (loopD X.cfg 4 Go.Proofs.Tryz.f4 0 23 ⟨[(6,.ref (.head 6 0) 0 0),(8,.bool z3),(9,.int .i64 r),(10,.ref (.head 10 0) 0 0),(12,.tree (H.map encHead)),(13,.int .i64 0)],[(.head 6 0,.box (encMesh w) true),(.head 10 0,.box (encView a.own) true)]⟩) (· = ⟨.bool true,[],[]⟩) := by
                  intro z3 hz3
                  refine Sat.pLoop 23 (St.mk [(6,.ref (.head 6 0) 0 0),(8,.bool z3),(9,.int .i64 (↑r : Int)),(10,.ref
                   (.head 10 0) 0 0),(12,.tree (List.map encHead H)),(13,.int .i64 0)] [(.head 6 0,.box (encMesh w) true),
                   (.head 10 0,.box (encView a.own) true)]) (by kernel_rfl) (fun (p : Nat × Bool) => ⟨[(6,.ref (.head 6 0) 0 0),(8,.bool p.2),(9,.int .i64 r),(10,.ref
                   (.head 10 0) 0 0),(12,.tree (H.map encHead)),(13,.int .i64 p.1)],[(.head 6 0,.box (encMesh w) true),
                   (.head 10 0,.box (encView a.own) true)]⟩) (fun p => p.1 ≤ H.length ∧ p.2 = (z3 && decide (a.own.Seen.take p.1 = H.take p.1))) (fun p => H.length - p.1) (0,z3) rfl ?_ ?_
                  · exact ⟨by simp,by simp⟩
                  · rintro ⟨t,z4⟩ hT again4
                    obtain ⟨t1,t2⟩ := hT
                    simp only at t1 t2
                    by_cases ht : t < H.length ∧ t < a.own.Seen.length
                    · obtain ⟨x,hx⟩ : ∃ x,a.own.Seen[t]? = some x := ⟨a.own.Seen[t]'(by omega),by simp⟩
                      obtain ⟨v,hv⟩ : ∃ x,H[t]? = some x := ⟨H[t]'(by omega),by simp⟩
                      have ht1 := ht.1
                      have ht2 := ht.2
                      have hst : (z3 && decide (a.own.Seen.take (t + 1) = H.take (t + 1))) = (z4 && decide (x.Item = v.Item ∧ x.S.L = v.S.L ∧ x.S.R = v.S.R ∧ x.S.N = v.S.N)) := by
                        rw [t2,Bool.and_assoc]; congr 1
                        rw [← Bool.decide_and]
                        exact decide_eq_decide.2 ((take_step hx hv).trans (by rw [Head.ext_iff,Stamp.ext_iff]))
                      clear t2
                      refine (.el encHead ht1 (.el encHead ht1 (.el encHead ht1 (.el encHead ht1 (.el encHead ht1 (.el encHead ht1 (.el encHead ht2 (.n z4 (fun _h89 => .t _h89 (.t _h89 (.t _h89 (.T (.eh encHead hx (.t _h89
                       (.t _h89 (.t _h89 (.t _h89 (.T (.eh encHead hv (.t _h89 (.t _h89 (.t _h89 (have _w90 := wI64' ((↑t : Int) + (1 : Int)); .A (St.mk [(6,.ref
                       (.head 6 0) 0 0),(8,.bool (decide (x.Item = v.Item) && (decide (x.S.L = v.S.L) && (decide (x.S.R = v.S.R) && (decide (x.S.N = v.S.N) && true)) && true))),(9,.int .i64 (↑r : Int)),(10,.ref
                       (.head 10 0) 0 0),(12,.tree (List.map encHead H)),(13,.int .i64 (IntKind.i64.wrap ((↑t : Int) + 1)))] [(.head 6 0,.box (encMesh w) true),
                       (.head 10 0,.box (encView a.own) true)]) (by simp [encView,encMesh,_w90]) (again4 ((t + (1 : Nat),decide (x.Item = v.Item) && (decide (x.S.L = v.S.L) && (decide (x.S.R = v.S.R) && (decide (x.S.N = v.S.N) && Bool.true)) && Bool.true))) ⟨(by dsimp only; omega),(by dsimp only; (clear c2 c3 again cR cK again3 cH again2 again4; (rw [hst]; simp [*]; done)))⟩ (by dsimp only; omega)))))))))))))))))
                       (fun _h89 => .f _h89 (.f _h89 (.f _h89 (.f _h89 (.f _h89 (.f _h89 (.f _h89 (.f _h89 (.f _h89 (.f _h89 (have _w91 := wI64' ((↑t : Int) + (1 : Int)); .A (St.mk [(6,.ref
                       (.head 6 0) 0 0),(8,.bool false),(9,.int .i64 (↑r : Int)),(10,.ref
                       (.head 10 0) 0 0),(12,.tree (List.map encHead H)),(13,.int .i64 (IntKind.i64.wrap ((↑t : Int) + 1)))] [(.head 6 0,.box (encMesh w) true),
                       (.head 10 0,.box (encView a.own) true)]) (by simp [encView,encMesh,_w91]) (again4 ((t + (1 : Nat),Bool.false)) ⟨(by dsimp only; omega),(by dsimp only; (clear c2 c3 again cR cK again3 cH again2 again4; (rw [hst]; simp [*]; done)))⟩ (by dsimp only; omega)))))))))))))))))))))
                    · have hend := row_end ha j2 hz2 hz3 t2 (by omega)
                      clear t2
                      refine (.kl encHead H t (fun _h83 => .el encHead _h83 (.el encHead _h83 (.el encHead _h83 (.el encHead _h83 (.el encHead _h83 (.kl encHead a.own.Seen t (fun _h84 => False.elim (by omega))
                       (fun _h84 => have _w85 := wI64' ((↑r : Int) + (1 : Int)); .A (St.mk [(6,.ref
                       (.head 6 0) 0 0),(8,.bool z4),(9,.int .i64 (IntKind.i64.wrap ((↑r : Int) + 1)))] [(.head 6 0,.box (encMesh w) true)]) (by simp [encMesh,_w85]) (again2 ((r + (1 : Nat),z4)) (by (clear c2 c3 again cR cK again3 cH again2 again4; (dsimp only; (refine ⟨?_, ?_⟩ <;> omega)))) (by (clear c2 c3 again cR cK again3 cH again2 again4; (dsimp only; omega)))))))))))
                       (fun _h83 => .en encHead _h83 (.en encHead _h83 (.en encHead _h83 (.en encHead _h83 (.en encHead _h83 (.F (have _w86 := wI64' ((↑r : Int) + (1 : Int)); .A (St.mk [(6,.ref
                       (.head 6 0) 0 0),(8,.bool z4),(9,.int .i64 (IntKind.i64.wrap ((↑r : Int) + 1)))] [(.head 6 0,.box (encMesh w) true)]) (by simp [encMesh,_w86]) (again2 ((r + (1 : Nat),z4)) (by (clear c2 c3 again cR cK again3 cH again2 again4; (dsimp only; (refine ⟨?_, ?_⟩ <;> omega)))) (by (clear c2 c3 again cR cK again3 cH again2 again4; (dsimp only; omega))))))))))))
                refine (.i ((↑q : Int) < w.Size) (fun _h74 => False.elim (by omega)) (fun _h74 => .c (@cH) (.n z2 (fun _h75 => .t _h75 (.t _h75 (.t _h75 (.t _h75 (.t _h75 (.t _h75
                 (Sat.pJoinE (L := loopD X.cfg (4 : FuncId) Proofs.Tryz.f4 0 23) (St.mk [(6,.ref
                 (.head 6 0) 0 0),(8,.bool (decide ((↑(List.map encHead a.own.Seen).length : Int) = (↑(List.map encHead H).length : Int)))),(9,.int .i64 (↑r : Int)),(10,.ref
                 (.head 10 0) 0 0),(12,.tree (List.map encHead H)),(13,.int .i64 0)] [(.head 6 0,.box (encMesh w) true),
                 (.head 10 0,.box (encView a.own) true)]) (by kernel_rfl) rfl rfl (again_s (decide ((↑(List.map encHead a.own.Seen).length : Int) = (↑(List.map encHead H).length : Int))) (by (clear c2 c3 again cR cK again3 cH again2 again_s; (rw [(by assumption : z2 = true),Bool.true_and]; exact decide_eq_decide.2 (by simp only [List.length_map]; omega))))))))))))
                 (fun _h75 => .f _h75 (.f _h75 (.f _h75 (.f _h75 (.f _h75 (.f _h75 (Sat.pJoinE (L := loopD X.cfg (4 : FuncId) Proofs.Tryz.f4 0 23) (St.mk [(6,.ref
                 (.head 6 0) 0 0),(8,.bool false),(9,.int .i64 (↑r : Int)),(10,.ref (.head 10 0) 0 0),(12,.tree (List.map encHead H)),(13,.int .i64 0)] [(.head 6 0,.box (encMesh w) true),
                 (.head 10 0,.box (encView a.own) true)]) (by kernel_rfl) rfl rfl (again_s (Bool.false) (by (clear c2 c3 again cR cK again3 cH again2 again_s; (rw [(by assumption : z2 = false)]; rfl))))))))))))))
          · refine (.i ((↑r : Int) < w.Size) (fun _h48 => False.elim (by omega)) (fun _h48 => .c (@cK) (.q (Res.mk
             (.bool (decide (decide (c = 0) = z))) [] []) (by (clear c2 c3 again cR cK cH again2; (rw [show z = decide (c = 0) from by rw [j2,show r = w.Repls.length by omega]; exact (decide_eq_decide.2 (hc.trans (by unfold SoFar; rw [List.take_length]))).symm]; simp; done))))))
      · have cK : X.call 19 [encMesh Mesh.zero] [] ⟨.int .i64 0,[],[]⟩ := ev_ok envOk 1000 _ _ _ _ (by kernel_rfl)
        have hz : Mesh.zero.Size = 0 := rfl
        refine (.T
         (have _u31 : y.toNat < (256 : Nat) := UInt8.toNat_lt _; have _w32 : (↑y.toNat : Int).tmod (12 : Int) = (↑y.toNat : Int) % (12 : Int) := Int.tmod_eq_emod_of_nonneg (by omega); have _w33 := wI64' ((↑y.toNat : Int) % (12 : Int)); .k ((↑i : Int) < IntKind.i64.wrap ((↑y.toNat : Int).tmod 12)) ((↑i : Int) < (↑y.toNat : Int) % 12) (by simp only [_w33,_w32])
         (fun _h34 => .c (@cR) (have _w35 := wI64' ((↑i : Int) + (1 : Int)); .A (St.mk [(1,.int .u8 (↑y.toNat : Int)),(6,.ref
         (.head 6 0) 0 0),(7,.int .i64 (IntKind.i64.wrap ((↑i : Int) + 1)))] [(.head 6 0,.box (encMesh w2) true)]) (by simp [encMesh,_w35]) (again ((i + (1 : Nat),Mesh.mk w2.Size w2.Batch w2.Edges w2.Repls w2.Fly w2.Issued)) (by (clear c2 c3 again cR cK; (dsimp only; (refine ⟨?_, ?_⟩ <;> omega)))) (by (clear c2 c3 again cR cK; (dsimp only; omega))))))
         (fun _h34 => ?_)))
        refine Sat.pUnroll 13 (St.mk [(6,.ref (.head 6 0) 0 0),(8,.bool true),(9,.int .i64 0)] [(.head 6 0,.box (encMesh Mesh.zero) true)]) (by kernel_rfl) ?_
        refine (.F (.c (@cK) .r))
  · refine spec_of ok Go.Proofs.Tryz.func4 ok4 ?_
    refine (.c (@Tryz.c9) (.F (.k (200 < (↑(List.map encB l).length : Int)) (200 < l.length) (by simp only [List.length_map,ciLt]) (fun _h4 => .r) (fun _h4 => False.elim (by omega)))))
theorem law_RankNought (x0 : List UInt8) (x1 : UInt8) (_h0 : (∀ x ∈ x0,True) ∧ x0.length ≤ maxLen) (_h1 : True) : X.call 4 [.tree (x0.map encB),encB x1] [] ⟨.bool true,[],[]⟩ := c4 x0 x1
end Go.Ab.Tryz
