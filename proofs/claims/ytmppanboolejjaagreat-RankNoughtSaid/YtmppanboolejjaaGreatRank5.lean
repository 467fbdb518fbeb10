/- Packages goal and rank: heads, what is stale, what is missing. -/
import Derived.Test.YtmppanboolejjaaGreatRank4
import Derived.Test.YtmppanboolejjaaGreatRank2
import Derived.Test.YtmppanboolejjaaGreatG3
namespace Go.Ab.Tryz
open Go
set_option maxRecDepth 100000
set_option maxHeartbeats 4000000
theorem c42 (m : Mesh) (hl : m.Issued.length ≤ 800) : X.call 42 [encMesh m] [] ⟨.tree ((headsM m.Issued).map encHead),[],[]⟩ := by
  refine spec_of ok Go.Proofs.Tryz.func42 ok42 ?_
  refine ?_
  refine Sat.pLoop 2 (St.mk [(2,.tree []),(6,.tree (List.map encVersion m.Issued)),(7,.int .i64 (↑(List.map encVersion m.Issued).length : Int)),(8,.int .i64 0)] []) (by kernel_rfl) (fun (p : Nat × List Head) => ⟨[(2,.tree (p.2.map encHead)),(6,.tree (m.Issued.map encVersion)),(7,.int .i64 m.Issued.length),(8,.int .i64 p.1)],[]⟩) (fun p => p.1 ≤ m.Issued.length ∧ p.2.length ≤ p.1 ∧ p.2.Pairwise (fun a b => a.Item < b.Item) ∧ p.2 = headsM (m.Issued.take p.1)) (fun p => m.Issued.length - p.1) (0,[]) (by simp) ?_ ?_
  · exact ⟨by simp,by simp,List.Pairwise.nil,rfl⟩
  · rintro ⟨k,hs⟩ hI again
    obtain ⟨k1,k2,k4,k3⟩ := hI
    simp only at k1 k2 k3 k4
    refine (.k ((↑k : Int) < (↑m.Issued.length : Int)) (k < m.Issued.length) (by simp only [Int.ofNat_lt]) (fun _h11 => .T (.em encVersion m.Issued k ‹_›
     (fun _x12 _hx13 => .c (@Tryz.c76 (hs) (Head.mk _x12.Item _x12.S) ‹_› (by omega))
     (have _w14 := wI64' ((↑k : Int) + (1 : Int)); .A (St.mk [(2,.tree (List.map encHead (putHead hs (Head.mk _x12.Item _x12.S)))),(6,.tree (List.map encVersion m.Issued)),(7,.int .i64 (↑m.Issued.length : Int)),(8,.int .i64 (IntKind.i64.wrap ((↑k : Int) + 1)))] []) (by simp [_w14]) (again ((k + (1 : Nat),putHead hs (Head.mk _x12.Item _x12.S))) ⟨(by dsimp only; omega),⟨(by dsimp only; (clear again; (refine Nat.le_trans (putHead_len _ _) ?_; omega))),⟨(by dsimp only; (clear again; (exact putHead_ord ‹_›))),(by dsimp only; (clear again; (rw [headsM_succ ‹_›,k3])))⟩⟩⟩ (by dsimp only; omega))))))
     (fun _h11 => .q (Res.mk (.tree (List.map encHead hs)) [] []) (by (clear again; (rw [List.take_of_length_le (by omega)] at k3; rw [k3])))))
theorem own_ex {size : Nat} {B : Int} {r : Repl} (h : r.Ok size B) (hB : B ≤ 1000000000000) : X.call 40 [encRepl r] [] ⟨encView r.own,[],[]⟩ := by
  obtain ⟨q1,q2,q3,q4,q5,q6,q7,q8,q9,q10,q11,q12,q13,q14,q15,q16,q17,q18⟩ := h.sm hB
  have := h.s5
  refine c40 r h.vr q1 q2 q3 (by omega) (fun v hv => by have := (Version.may_fit (h.hm.may v hv)).al; omega) (fun w hw => ⟨by have := (q9 w hw).1; omega, ?_⟩)
  by_cases e : w.Rev = 0
  · rw [(h.vs w hw).e0 e]; simp
  · rw [(h.vs w hw).el e]; omega
theorem epoch_at {l : List Int} {r : Int} {j : Nat} {y : Int} (hl : l.length ≤ 1000) (hr : r = (j : Int) + 1) (hy : l[j]? = some y) : X.call 39 [.tree (l.map encI),.int .i64 r] [] ⟨.int .i64 y,[],[]⟩ := by
  have hj := (List.getElem?_eq_some_iff.1 hy).1
  have := c39 l r (by omega)
  rw [if_pos ⟨by omega,by omega⟩,show (r - 1).toNat = j by omega,List.getD,hy] at this
  exact this
theorem c15 (m : Mesh) (size k : Nat) (B : Int) (h : m.Ok size B k) (hB2 : B ≤ 900000000) : X.call 15 [encMesh m] [] ⟨.int .i64 m.stale,[],[]⟩ := by
  have hrl := h.rl
  have hs5 := h.s5
  refine spec_of ok Go.Proofs.Tryz.func15 ok15 ?_
  refine ?_
  refine Sat.pLoop 2 (St.mk [(1,.ref
   (.head 1 0) 0 0),(2,.int .i64 0),(8,.tree (List.map encRepl m.Repls)),(9,.int .i64 (↑(List.map encRepl m.Repls).length : Int)),(10,.int .i64 0)] [(.head 1 0,.box (encMesh m) true)]) (by kernel_rfl) (fun (p : Nat × Int) => ⟨[(1,.ref
   (.head 1 0) 0 0),(2,.int .i64 p.2),(8,.tree (m.Repls.map encRepl)),(9,.int .i64 m.Repls.length),(10,.int .i64 p.1)],[(.head 1 0,.box (encMesh m) true)]⟩) (fun p => p.1 ≤ m.Repls.length ∧ p.2 = lackAll m.Repls p.1 ∧ 0 ≤ p.2 ∧ p.2 ≤ 10000000000000 * p.1) (fun p => m.Repls.length - p.1) (0,0) (by (simp [encMesh]; done)) ?_ ?_
  · exact ⟨by simp,rfl,by simp,by simp⟩
  · rintro ⟨i,n⟩ hI again
    obtain ⟨i1,i2,i3,i4⟩ := hI
    simp only at i1 i2 i3 i4
    refine (.k ((↑i : Int) < (↑m.Repls.length : Int)) (i < m.Repls.length) (by simp only [Int.ofNat_lt]) (fun _h17 => .T (.em encRepl m.Repls i ‹_› (fun _x18 _hx19 => ?_))) (fun _h17 => .q (Res.mk
     (.int .i64 n) [] []) (by (clear again; (rw [i2,show i = m.Repls.length by omega]; rfl)))))
    have ha := _hx19
    have oa := (h.rs _ _ ha).1
    have ca := own_ex oa (by omega)
    refine Sat.pLoop 5 (St.mk [(1,.ref (.head 1 0) 0 0),(2,.int .i64 n),(4,.ref
     (.head 4 0) 0 0),(8,.tree (List.map encRepl m.Repls)),(9,.int .i64 (↑m.Repls.length : Int)),(10,.int .i64 (↑i : Int)),(15,.tree (List.map encRepl m.Repls)),(16,.int .i64 (↑(List.map encRepl m.Repls).length : Int)),(17,.int .i64 0)] [(.head 1 0,.box (encMesh m) true),
     (.head 4 0,.box (encRepl _x18) true)]) (by kernel_rfl) (fun (p : Nat × Int) => ⟨[(1,.ref (.head 1 0) 0 0),(2,.int .i64 p.2),(4,.ref
     (.head 4 0) 0 0),(8,.tree (m.Repls.map encRepl)),(9,.int .i64 m.Repls.length),(10,.int .i64 i),(15,.tree (m.Repls.map encRepl)),(16,.int .i64 m.Repls.length),(17,.int .i64 p.1)],[(.head 1 0,.box (encMesh m) true),
     (.head 4 0,.box (encRepl _x18) true)]⟩) (fun p => p.1 ≤ m.Repls.length ∧ p.2 = n + lackRow m.Repls _x18 p.1 ∧ 0 ≤ p.2 ∧ p.2 ≤ 10000000000000 * i + 1000000000000 * p.1) (fun p => m.Repls.length - p.1) (0,n) (by (simp [encMesh,encRepl]; done)) ?_ ?_
    · exact ⟨by simp,by simp [lackRow],i3,by simpa using i4⟩
    · rintro ⟨j,n2⟩ hJ again2
      obtain ⟨j1,j2,j3,j4⟩ := hJ
      simp only at j1 j2 j3 j4
      by_cases hj : j < m.Repls.length
      · obtain ⟨b,hb⟩ : ∃ b,m.Repls[j]? = some b := ⟨m.Repls[j],by simp⟩
        have ob := (h.rs _ _ hb).1
        have cb := own_ex ob (by omega)
        have l1 := oa.own_el
        have l2 := ob.own_el
        obtain ⟨x,hx⟩ : ∃ x,_x18.own.Epochs[j]? = some x := ⟨_x18.own.Epochs[j]'(by omega),by simp⟩
        obtain ⟨y,hy⟩ : ∃ y,b.own.Epochs[j]? = some y := ⟨b.own.Epochs[j]'(by omega),by simp⟩
        have ea := epoch_at (l := _x18.own.Epochs) (by omega) (h.rs _ _ hb).2 hx
        have eb := epoch_at (l := b.own.Epochs) (by omega) (h.rs _ _ hb).2 hy
        have x0 := oa.own_ok.e x (List.mem_of_getElem? hx)
        have y0 := ob.own_ok.e y (List.mem_of_getElem? hy)
        have e1 : lackRow m.Repls _x18 (j + 1) = lackRow m.Repls _x18 j + (if 0 > y - x then 0 else y - x) := by rw [lackRow_succ hb]; exact congrArg _ (lack_yes hx hy)
        clear l1 l2 oa ob hx hy
        refine (.et ((↑j : Int) < (↑m.Repls.length : Int)) (by simp only [Int.ofNat_lt]) hj (.T (.eh encRepl hb (.c (@cb) (.c (@eb) (.c (@ca) (.c (@ea)
         (have _w47 := wI64' (y - x); have _w48 := wI64' (n2 + if (0 : Int) > y - x then (0 : Int) else y - x); have _w49 := wI64' ((↑j : Int) + (1 : Int)); .A (St.mk [(1,.ref
         (.head 1 0) 0 0),(2,.int .i64 (IntKind.i64.wrap (n2 + if 0 > IntKind.i64.wrap (y - x) then 0 else IntKind.i64.wrap (y - x)))),(4,.ref
         (.head 4 0) 0 0),(8,.tree (List.map encRepl m.Repls)),(9,.int .i64 (↑m.Repls.length : Int)),(10,.int .i64 (↑i : Int)),(15,.tree (List.map encRepl m.Repls)),(16,.int .i64 (↑m.Repls.length : Int)),(17,.int .i64 (IntKind.i64.wrap ((↑j : Int) + 1)))] [(.head 1 0,.box (encMesh m) true),
         (.head 4 0,.box (encRepl _x18) true)]) (by simp [encRepl,encMesh,_w49,_w48,_w47]) (again2 ((j + (1 : Nat),n2 + if (0 : Int) > y - x then (0 : Int) else y - x)) (by (clear again ca again2 cb ea eb; (dsimp only; omega))) (by (clear again ca again2 cb ea eb; (dsimp only; omega))))))))))))
      · refine (.eF ((↑j : Int) < (↑m.Repls.length : Int)) (by simp only [Int.ofNat_lt]) hj (have _w32 := wI64' ((↑i : Int) + (1 : Int)); .A (St.mk [(1,.ref
         (.head 1 0) 0 0),(2,.int .i64 n2),(8,.tree (List.map encRepl m.Repls)),(9,.int .i64 (↑m.Repls.length : Int)),(10,.int .i64 (IntKind.i64.wrap ((↑i : Int) + 1)))] [(.head 1 0,.box (encMesh m) true)]) (by simp [encMesh,_w32]) (again ((i + (1 : Nat),n2)) ⟨(by dsimp only; omega),⟨(by dsimp only; (clear again ca again2; (rw [lackAll_succ ha,j2,i2,show j = m.Repls.length by omega]))),⟨(by dsimp only; omega),(by dsimp only; omega)⟩⟩⟩ (by dsimp only; omega))))
theorem c17 (m : Mesh) (size k : Nat) (B : Int) (h : m.Ok size B k) (hB2 : B ≤ 900000000) (hk : k ≤ 800) : X.call 17 [encMesh m] [] ⟨.int .i64 m.missing,[],[]⟩ := by
  have hrl := h.rl
  have hs5 := h.s5
  have hil := h.il
  refine spec_of ok Go.Proofs.Tryz.func17 ok17 ?_
  refine ?_
  refine Sat.pLoop 2 (St.mk [(1,.ref
   (.head 1 0) 0 0),(2,.int .i64 0),(8,.tree (List.map encRepl m.Repls)),(9,.int .i64 (↑(List.map encRepl m.Repls).length : Int)),(10,.int .i64 0)] [(.head 1 0,.box (encMesh m) true)]) (by kernel_rfl) (fun (i : Nat) => ⟨[(1,.ref
   (.head 1 0) 0 0),(2,.int .i64 (missAll (headsM m.Issued) m.Repls i)),(8,.tree (m.Repls.map encRepl)),(9,.int .i64 m.Repls.length),(10,.int .i64 i)],[(.head 1 0,.box (encMesh m) true)]⟩) (fun i => i ≤ m.Repls.length ∧ missAll (headsM m.Issued) m.Repls i ≤ 1000 * i) (fun i => m.Repls.length - i) 0 (by (simp [encMesh,missAll]; done)) ?_ ?_
  · exact ⟨by simp,by simp [missAll]⟩
  · intro i hI again
    have i1 := hI.1
    have i2 := hI.2
    clear hI
    refine (.k ((↑i : Int) < (↑m.Repls.length : Int)) (i < m.Repls.length) (by simp only [Int.ofNat_lt]) (fun _h16 => .T (.em encRepl m.Repls i ‹_› (fun _x17 _hx18 => .c (@Tryz.c42 (m) (by omega)) ?_)))
     (fun _h16 => .q (Res.mk (.int .i64 (↑(missAll (headsM m.Issued) m.Repls i) : Int)) [] []) (by (clear again; (rw [show i = m.Repls.length by omega]; rfl)))))
    have ha := _hx18
    have oa := (h.rs _ _ ha).1
    have ca := own_ex oa (by omega)
    have hp := (headsMay_iff.1 oa.own_ok.s).2
    have hs := headsMay_len (by omega) oa.own_ok.s
    have hn := headsM_len m.Issued m.Issued.length
    rw [List.take_length] at hn
    clear oa
    refine Sat.pLoop 5 (St.mk [(1,.ref (.head 1 0) 0 0),(2,.int .i64 (↑(missAll (headsM m.Issued) m.Repls i) : Int)),(4,.ref
     (.head 4 0) 0 0),(8,.tree (List.map encRepl m.Repls)),(9,.int .i64 (↑m.Repls.length : Int)),(10,.int .i64 (↑i : Int)),(15,.tree (List.map encHead (headsM m.Issued))),(16,.int .i64 (↑(List.map encHead (headsM m.Issued)).length : Int)),(17,.int .i64 0)] [(.head 1 0,.box (encMesh m) true),
     (.head 4 0,.box (encRepl _x17) true)]) (by kernel_rfl) (fun (k : Nat) => ⟨[(1,.ref
     (.head 1 0) 0 0),(2,.int .i64 ((missAll (headsM m.Issued) m.Repls i + missRow (headsM m.Issued) _x17 k : Nat) : Int)),(4,.ref
     (.head 4 0) 0 0),(8,.tree (m.Repls.map encRepl)),(9,.int .i64 m.Repls.length),(10,.int .i64 i),(15,.tree ((headsM m.Issued).map encHead)),(16,.int .i64 (headsM m.Issued).length),(17,.int .i64 k)],[(.head 1 0,.box (encMesh m) true),
     (.head 4 0,.box (encRepl _x17) true)]⟩) (fun k => k ≤ (headsM m.Issued).length) (fun k => (headsM m.Issued).length - k) 0 (by (simp [missRow,encMesh,encRepl]; done)) ?_ ?_
    · simp
    · intro k hk again2
      have hle := missRow_le (headsM m.Issued) _x17 k
      refine (.k ((↑k : Int) < (↑(headsM m.Issued).length : Int)) (k < (headsM m.Issued).length) (by simp only [Int.ofNat_lt]) (fun _h30 => .T (.em encHead (headsM m.Issued) k ‹_› (fun _x31 _hx32 => .c (@ca)
       (.c (@Tryz.c43 (_x17.own.Seen) (_x31.Item) ‹_› (by omega))
       (Sat.pNodeEN (decide ((headAt _x17.own.Seen _x31.Item).L = _x31.S.L) && (decide ((headAt _x17.own.Seen _x31.Item).R = _x31.S.R) && (decide ((headAt _x17.own.Seen _x31.Item).N = _x31.S.N) && Bool.true))) ((headAt _x17.own.Seen _x31.Item).L = _x31.S.L ∧ (headAt _x17.own.Seen _x31.Item).R = _x31.S.R ∧ (headAt _x17.own.Seen _x31.Item).N = _x31.S.N ∧ True) (by kernel_rfl) (by simp only [Bool.and_eq_true,decide_eq_true_eq])
       (fun _h33 => have _w34 := wI64' ((↑(missAll (headsM m.Issued) m.Repls i + missRow (headsM m.Issued) _x17 k) : Int) + (1 : Int)); have _w35 := wI64' ((↑k : Int) + (1 : Int)); .A (St.mk [(1,.ref
       (.head 1 0) 0 0),(2,.int .i64 (IntKind.i64.wrap ((↑(missAll (headsM m.Issued) m.Repls i + missRow (headsM m.Issued) _x17 k) : Int) + 1))),(4,.ref
       (.head 4 0) 0 0),(8,.tree (List.map encRepl m.Repls)),(9,.int .i64 (↑m.Repls.length : Int)),(10,.int .i64 (↑i : Int)),(15,.tree (List.map encHead (headsM m.Issued))),(16,.int .i64 (↑(headsM m.Issued).length : Int)),(17,.int .i64 (IntKind.i64.wrap ((↑k : Int) + 1)))] [(.head 1 0,.box (encMesh m) true),
       (.head 4 0,.box (encRepl _x17) true)]) (by (clear again ca again2; (rw [missRow_no ‹_› ‹_›,← Nat.add_assoc]; simp only [*]; rfl))) (again2 (k + (1 : Nat)) (by omega) (by omega)))
       (fun _h33 => have _w36 := wI64' ((↑k : Int) + (1 : Int)); .A (St.mk [(1,.ref
       (.head 1 0) 0 0),(2,.int .i64 (↑(missAll (headsM m.Issued) m.Repls i + missRow (headsM m.Issued) _x17 k) : Int)),(4,.ref
       (.head 4 0) 0 0),(8,.tree (List.map encRepl m.Repls)),(9,.int .i64 (↑m.Repls.length : Int)),(10,.int .i64 (↑i : Int)),(15,.tree (List.map encHead (headsM m.Issued))),(16,.int .i64 (↑(headsM m.Issued).length : Int)),(17,.int .i64 (IntKind.i64.wrap ((↑k : Int) + 1)))] [(.head 1 0,.box (encMesh m) true),
       (.head 4 0,.box (encRepl _x17) true)]) (by (clear again ca again2; (rw [missRow_yes ‹_› ‹_›]; simp [encMesh,encRepl, *]; done))) (again2 (k + (1 : Nat)) (by omega) (by omega))))))))
       (fun _h30 => have _w37 := wI64' ((↑i : Int) + (1 : Int)); .A (St.mk [(1,.ref
       (.head 1 0) 0 0),(2,.int .i64 (↑(missAll (headsM m.Issued) m.Repls i + missRow (headsM m.Issued) _x17 k) : Int)),(8,.tree (List.map encRepl m.Repls)),(9,.int .i64 (↑m.Repls.length : Int)),(10,.int .i64 (IntKind.i64.wrap ((↑i : Int) + 1)))] [(.head 1 0,.box (encMesh m) true)]) (by (clear again ca again2; (rw [missAll_succ ha,show k = (headsM m.Issued).length by omega]; simp [encMesh, *]; done))) (again (i + (1 : Nat)) (by (clear again ca again2; (rw [missAll_succ ha]; have := missRow_le (headsM m.Issued) _x17 (headsM m.Issued).length; refine ⟨by omega, ?_⟩; omega))) (by omega))))
theorem c19 (m : Mesh) (size k : Nat) (B : Int) (h : m.Ok size B k) (hB2 : B ≤ 900000000) (hk : k ≤ 800) : X.call 19 [encMesh m] [] ⟨.int .i64 (IntKind.i64.wrap (IntKind.i64.wrap (m.stale * 31) + m.missing)),[],[]⟩ := by
  have c1 := c15 m size k B h hB2
  have c2 := c17 m size k B h hB2 hk
  clear h
  refine spec_of ok Go.Proofs.Tryz.func19 ok19 ?_
  refine (.c (@c1) (.c (@c2) .r))
end Go.Ab.Tryz
