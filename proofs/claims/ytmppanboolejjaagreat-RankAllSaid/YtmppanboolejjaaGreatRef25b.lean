/- Package cardamomref25: what is counted, as plain Lean. -/
import Derived.Test.YtmppanboolejjaaGreatRef25a
import Derived.Test.YtmppanboolejjaaGreatRef1f
namespace Go.Ab.Tryz
open Go
set_option maxRecDepth 100000
set_option maxHeartbeats 4000000
theorem c21 (m : Mesh) (hl : m.Issued.length ≤ 900) : X.call 21 [encMesh m] [] ⟨.tree ((headsM m.Issued).map encHead),[],[]⟩ := by
  refine spec_of ok Go.Proofs.Tryz.func21 ok21 ?_
  refine ?_
  refine Sat.pLoop 3 (St.mk [(1,.ref (.head 1 0) 0 0),(3,.tree []),(4,.int .i64 0)] [(.head 1 0,.box (encMesh m) true)]) (by kernel_rfl) (fun (p : Nat × List Head) => ⟨[(1,.ref
   (.head 1 0) 0 0),(3,.tree (p.2.map encHead)),(4,.int .i64 p.1)],[(.head 1 0,.box (encMesh m) true)]⟩) (fun p => p.1 ≤ m.Issued.length ∧ p.2.length ≤ p.1 ∧ p.2 = headsM (m.Issued.take p.1)) (fun p => m.Issued.length - p.1) (0,[]) rfl ?_ ?_
  · exact ⟨by simp,by simp,rfl⟩
  · rintro ⟨k,hs⟩ hI again
    obtain ⟨k1,k2,k3⟩ := hI
    simp only at k1 k2 k3
    refine (.k ((↑k : Int) < (↑(List.map encVersion m.Issued).length : Int)) (k < m.Issued.length) (by simp only [List.length_map,Int.ofNat_lt]) (fun _h10 => .T (.em encVersion m.Issued k ‹_›
     (fun _x11 _hx12 => .T (.eh encVersion _hx12 (.c (@Tryz.c44 (hs) (Head.mk _x11.Item _x11.S) (by omega)) (have _w13 := wI64' ((↑k : Int) + (1 : Int)); .A (St.mk [(1,.ref
     (.head 1 0) 0 0),(3,.tree (List.map encHead (putHead hs (Head.mk _x11.Item _x11.S)))),(4,.int .i64 (IntKind.i64.wrap ((↑k : Int) + 1)))] [(.head 1 0,.box (encMesh m) true)]) (by simp [encMesh,_w13]) (again ((k + (1 : Nat),putHead hs (Head.mk _x11.Item _x11.S))) ⟨(by show k + (1 : Nat) ≤ m.Issued.length; omega),⟨(by show (putHead hs (Head.mk _x11.Item _x11.S)).length ≤ k + (1 : Nat); (clear again; (refine Nat.le_trans (putHead_len _ _) ?_; omega))),(by show putHead hs (Head.mk _x11.Item _x11.S) = headsM (List.take (k + (1 : Nat)) m.Issued); (clear again; (rw [headsM_succ ‹_›,k3])))⟩⟩ (by show m.Issued.length - (k + (1 : Nat)) < m.Issued.length - k; omega))))))))
     (fun _h10 => .q (Res.mk (.tree (List.map encHead hs)) [] []) (by (clear again; (rw [List.take_of_length_le (by omega)] at k3; rw [k3])))))
theorem c16 (m : Mesh) (hl : m.Repls.length ≤ 5) (hv : ∀ r ∈ m.Repls,r.Views.length ≤ 1000 ∧ (ownOf r.ID r.Views).Epochs.length ≤ 1000) (he : ∀ r ∈ m.Repls,∀ e ∈ (ownOf r.ID r.Views).Epochs,0 ≤ e ∧ e ≤ 10000000) : X.call 16 [encMesh m] [] ⟨.int .i64 m.stale,[],[]⟩ := by
  refine spec_of ok Go.Proofs.Tryz.func16 ok16 ?_
  refine ?_
  refine Sat.pLoop 3 (St.mk [(1,.ref (.head 1 0) 0 0),(3,.int .i64 0),(4,.int .i64 0)] [(.head 1 0,.box (encMesh m) true)]) (by kernel_rfl) (fun (p : Nat × Int) => ⟨[(1,.ref
   (.head 1 0) 0 0),(3,.int .i64 p.2),(4,.int .i64 p.1)],[(.head 1 0,.box (encMesh m) true)]⟩) (fun p => p.1 ≤ m.Repls.length ∧ p.2 = lackAll m.Repls p.1 ∧ 0 ≤ p.2 ∧ p.2 ≤ 100000000 * p.1) (fun p => m.Repls.length - p.1) (0,0) rfl ?_ ?_
  · exact ⟨by simp,rfl,by simp,by simp⟩
  · rintro ⟨i,n⟩ hI again
    obtain ⟨i1,i2,i3,i4⟩ := hI
    simp only at i1 i2 i3 i4
    refine (.k ((↑i : Int) < (↑(List.map encRepl m.Repls).length : Int)) (i < m.Repls.length) (by simp only [List.length_map,Int.ofNat_lt]) (fun _h13 => ?_) (fun _h13 => .q (Res.mk
     (.int .i64 n) [] []) (by (clear again; (rw [i2,show i = m.Repls.length by omega]; rfl)))))
    obtain ⟨a,ha⟩ : ∃ a,m.Repls[i]? = some a := ⟨m.Repls[i],by simp⟩
    have hva := hv a (List.mem_of_getElem? ha)
    have hva1 := hva.1
    have hva2 := hva.2
    have hea := he a (List.mem_of_getElem? ha)
    refine Sat.pLoop 6 (St.mk [(1,.ref
     (.head 1 0) 0 0),(3,.int .i64 n),(4,.int .i64 (↑i : Int)),(5,.int .i64 0)] [(.head 1 0,.box (encMesh m) true)]) (by kernel_rfl) (fun (p : Nat × Int) => ⟨[(1,.ref
     (.head 1 0) 0 0),(3,.int .i64 p.2),(4,.int .i64 i),(5,.int .i64 p.1)],[(.head 1 0,.box (encMesh m) true)]⟩) (fun p => p.1 ≤ m.Repls.length ∧ p.2 = n + lackRow m.Repls a p.1 ∧ 0 ≤ p.2 ∧ p.2 ≤ 100000000 * i + 10000000 * p.1) (fun p => m.Repls.length - p.1) (0,n) rfl ?_ ?_
    · exact ⟨by simp,by simp [lackRow],i3,by simpa using i4⟩
    · rintro ⟨j,n2⟩ hJ again2
      obtain ⟨j1,j2,j3,j4⟩ := hJ
      simp only at j1 j2 j3 j4
      refine (.k ((↑j : Int) < (↑(List.map encRepl m.Repls).length : Int)) (j < m.Repls.length) (by simp only [List.length_map,Int.ofNat_lt]) (fun _h28 => .T (.eh encRepl ha (.T (.em encRepl m.Repls j ‹_›
       (fun _x29 _hx30 => have _hc31 := (hv _x29 (List.mem_of_getElem? _hx30)).1; have _hc32 := (hv _x29 (List.mem_of_getElem? _hx30)).2; have _hc33 := (he _x29 (List.mem_of_getElem? _hx30)); .c (@Tryz.c41 (a) ‹_›)
       (.c (@Tryz.c41 (_x29) ‹_›) (.k ((↑j : Int) < (↑(List.map encI (ownOf a.ID a.Views).Epochs).length : Int)) (j < (ownOf a.ID a.Views).Epochs.length) (by simp only [List.length_map,Int.ofNat_lt])
       (fun _h34 => .et ((↑j : Int) < (↑(List.map encI (ownOf a.ID a.Views).Epochs).length : Int)) (by simp only [List.length_map,Int.ofNat_lt]) _h34
       (.et ((↑j : Int) < (↑(List.map encI (ownOf a.ID a.Views).Epochs).length : Int)) (by simp only [List.length_map,Int.ofNat_lt]) _h34
       (.et ((↑j : Int) < (↑(List.map encI (ownOf a.ID a.Views).Epochs).length : Int)) (by simp only [List.length_map,Int.ofNat_lt]) _h34
       (.et ((↑j : Int) < (↑(List.map encI (ownOf a.ID a.Views).Epochs).length : Int)) (by simp only [List.length_map,Int.ofNat_lt]) _h34
       (.k ((↑j : Int) < (↑(List.map encI (ownOf _x29.ID _x29.Views).Epochs).length : Int)) (j < (ownOf _x29.ID _x29.Views).Epochs.length) (by simp only [List.length_map,Int.ofNat_lt]) (fun _h35 => .T
       (.em encI ((ownOf _x29.ID _x29.Views).Epochs) j ‹_› (fun _x36 _hx37 => have _hc38 := (_hc33 _x36 (List.mem_of_getElem? _hx37)).1; have _hc39 := (_hc33 _x36 (List.mem_of_getElem? _hx37)).2; .T
       (.em encI ((ownOf a.ID a.Views).Epochs) j ‹_›
       (fun _x40 _hx41 => have _hc42 := (hea _x40 (List.mem_of_getElem? _hx41)).1; have _hc43 := (hea _x40 (List.mem_of_getElem? _hx41)).2; have _w44 := wI64' (_x36 - _x40); have _w45 := wI64' (n2 + if (0 : Int) > _x36 - _x40 then (0 : Int) else _x36 - _x40); have _w46 := wI64' ((↑j : Int) + (1 : Int)); .A (St.mk [(1,.ref
       (.head 1 0) 0 0),(3,.int .i64 (IntKind.i64.wrap (n2 + if 0 > IntKind.i64.wrap (_x36 - _x40) then 0 else IntKind.i64.wrap (_x36 - _x40)))),(4,.int .i64 (↑i : Int)),(5,.int .i64 (IntKind.i64.wrap ((↑j : Int) + 1)))] [(.head 1 0,.box (encMesh m) true)]) (by simp [encMesh,_w46,_w45,_w44]) (again2 ((j + (1 : Nat),n2 + if (0 : Int) > _x36 - _x40 then (0 : Int) else _x36 - _x40)) ⟨(by show j + (1 : Nat) ≤ m.Repls.length; omega),⟨(by show (n2 + if (0 : Int) > _x36 - _x40 then (0 : Int) else _x36 - _x40) = n + lackRow m.Repls a (j + (1 : Nat)); (clear again again2; (rw [lackRow_succ ‹_›,j2,lack_yes ‹_› ‹_›,Int.add_assoc]))),⟨(by show (0 : Int) ≤ n2 + if (0 : Int) > _x36 - _x40 then (0 : Int) else _x36 - _x40; omega),(by show (n2 + if (0 : Int) > _x36 - _x40 then (0 : Int) else _x36 - _x40) ≤ (100000000 : Int) * (↑i : Int) + (10000000 : Int) * (↑(j + (1 : Nat)) : Int); omega)⟩⟩⟩ (by show m.Repls.length - (j + (1 : Nat)) < m.Repls.length - j; omega)))))))
       (fun _h35 => have _w47 := wI64' ((↑j : Int) + (1 : Int)); .A (St.mk [(1,.ref
       (.head 1 0) 0 0),(3,.int .i64 n2),(4,.int .i64 (↑i : Int)),(5,.int .i64 (IntKind.i64.wrap ((↑j : Int) + 1)))] [(.head 1 0,.box (encMesh m) true)]) (by simp [encMesh,_w47]) (again2 ((j + (1 : Nat),n2)) ⟨(by show j + (1 : Nat) ≤ m.Repls.length; omega),⟨(by show n2 = n + lackRow m.Repls a (j + (1 : Nat)); (clear again again2; (rw [lackRow_succ ‹_›,j2,lack_no (by omega)]; simp))),⟨(by show (0 : Int) ≤ n2; omega),(by show n2 ≤ (100000000 : Int) * (↑i : Int) + (10000000 : Int) * (↑(j + (1 : Nat)) : Int); omega)⟩⟩⟩ (by show m.Repls.length - (j + (1 : Nat)) < m.Repls.length - j; omega))))))))
       (fun _h34 => .eF ((↑j : Int) < (↑(List.map encI (ownOf a.ID a.Views).Epochs).length : Int)) (by simp only [List.length_map,Int.ofNat_lt]) _h34
       (.eF ((↑j : Int) < (↑(List.map encI (ownOf a.ID a.Views).Epochs).length : Int)) (by simp only [List.length_map,Int.ofNat_lt]) _h34
       (.eF ((↑j : Int) < (↑(List.map encI (ownOf a.ID a.Views).Epochs).length : Int)) (by simp only [List.length_map,Int.ofNat_lt]) _h34
       (.eF ((↑j : Int) < (↑(List.map encI (ownOf a.ID a.Views).Epochs).length : Int)) (by simp only [List.length_map,Int.ofNat_lt]) _h34 (.F (have _w48 := wI64' ((↑j : Int) + (1 : Int)); .A (St.mk [(1,.ref
       (.head 1 0) 0 0),(3,.int .i64 n2),(4,.int .i64 (↑i : Int)),(5,.int .i64 (IntKind.i64.wrap ((↑j : Int) + 1)))] [(.head 1 0,.box (encMesh m) true)]) (by simp [encMesh,_w48]) (again2 ((j + (1 : Nat),n2)) ⟨(by show j + (1 : Nat) ≤ m.Repls.length; omega),⟨(by show n2 = n + lackRow m.Repls a (j + (1 : Nat)); (clear again again2; (rw [lackRow_succ ‹_›,j2,lack_no (by omega)]; simp))),⟨(by show (0 : Int) ≤ n2; omega),(by show n2 ≤ (100000000 : Int) * (↑i : Int) + (10000000 : Int) * (↑(j + (1 : Nat)) : Int); omega)⟩⟩⟩ (by show m.Repls.length - (j + (1 : Nat)) < m.Repls.length - j; omega)))))))))))))))
       (fun _h28 => have _w49 := wI64' ((↑i : Int) + (1 : Int)); .A (St.mk [(1,.ref
       (.head 1 0) 0 0),(3,.int .i64 n2),(4,.int .i64 (IntKind.i64.wrap ((↑i : Int) + 1)))] [(.head 1 0,.box (encMesh m) true)]) (by simp [encMesh,_w49]) (again ((i + (1 : Nat),n2)) ⟨(by show i + (1 : Nat) ≤ m.Repls.length; omega),⟨(by show n2 = lackAll m.Repls (i + (1 : Nat)); (clear again again2; (rw [lackAll_succ ha,j2,i2,show j = m.Repls.length by omega]))),⟨(by show (0 : Int) ≤ n2; omega),(by show n2 ≤ (100000000 : Int) * (↑(i + (1 : Nat)) : Int); omega)⟩⟩⟩ (by show m.Repls.length - (i + (1 : Nat)) < m.Repls.length - i; omega))))
theorem c18 (m : Mesh) (hl : m.Repls.length ≤ 5) (hi : m.Issued.length ≤ 900) (hv : ∀ r ∈ m.Repls,r.Views.length ≤ 1000 ∧ (ownOf r.ID r.Views).Seen.length ≤ 1000) : X.call 18 [encMesh m] [] ⟨.int .i64 m.missing,[],[]⟩ := by
  have hn := headsM_len m.Issued m.Issued.length
  rw [List.take_length] at hn
  refine spec_of ok Go.Proofs.Tryz.func18 ok18 ?_
  refine (.c (@Tryz.c21 (m) ‹_›) ?_)
  refine Sat.pLoop 4 (St.mk [(1,.ref
   (.head 1 0) 0 0),(3,.int .i64 0),(4,.tree (List.map encHead (headsM m.Issued))),(5,.int .i64 0)] [(.head 1 0,.box (encMesh m) true)]) (by kernel_rfl) (fun (i : Nat) => ⟨[(1,.ref
   (.head 1 0) 0 0),(3,.int .i64 (missAll (headsM m.Issued) m.Repls i)),(4,.tree ((headsM m.Issued).map encHead)),(5,.int .i64 i)],[(.head 1 0,.box (encMesh m) true)]⟩) (fun i => i ≤ m.Repls.length ∧ missAll (headsM m.Issued) m.Repls i ≤ 1000 * i) (fun i => m.Repls.length - i) 0 rfl ?_ ?_
  · exact ⟨by simp,by simp [missAll]⟩
  · intro i hI again
    have i1 := hI.1
    have i2 := hI.2
    clear hI
    refine (.k ((↑i : Int) < (↑(List.map encRepl m.Repls).length : Int)) (i < m.Repls.length) (by simp only [List.length_map,Int.ofNat_lt]) (fun _h12 => ?_) (fun _h12 => .q (Res.mk
     (.int .i64 (↑(missAll (headsM m.Issued) m.Repls i) : Int)) [] []) (by (clear again; (rw [show i = m.Repls.length by omega]; rfl)))))
    obtain ⟨a,ha⟩ : ∃ a,m.Repls[i]? = some a := ⟨m.Repls[i],by simp⟩
    have hva := hv a (List.mem_of_getElem? ha)
    have hva1 := hva.1
    have hva2 := hva.2
    refine Sat.pLoop 7 (St.mk [(1,.ref
     (.head 1 0) 0 0),(3,.int .i64 (↑(missAll (headsM m.Issued) m.Repls i) : Int)),(4,.tree (List.map encHead (headsM m.Issued))),(5,.int .i64 (↑i : Int)),(6,.int .i64 0)] [(.head 1 0,.box (encMesh m) true)]) (by kernel_rfl) (fun (k : Nat) => ⟨[(1,.ref
     (.head 1 0) 0 0),(3,.int .i64 ((missAll (headsM m.Issued) m.Repls i + missRow (headsM m.Issued) a k : Nat) : Int)),(4,.tree ((headsM m.Issued).map encHead)),(5,.int .i64 i),(6,.int .i64 k)],[(.head 1 0,.box (encMesh m) true)]⟩) (fun k => k ≤ (headsM m.Issued).length) (fun k => (headsM m.Issued).length - k) 0 rfl ?_ ?_
    · simp
    · intro k hk again2
      have hle := missRow_le (headsM m.Issued) a k
      refine (.k ((↑k : Int) < (↑(List.map encHead (headsM m.Issued)).length : Int)) (k < (headsM m.Issued).length) (by simp only [List.length_map,Int.ofNat_lt]) (fun _h22 => .T (.eh encRepl ha (.T
       (.em encHead (headsM m.Issued) k ‹_› (fun _x23 _hx24 => .T (.eh encHead _hx24 (.c (@Tryz.c41 (a) ‹_›) (.c (@Tryz.c33 ((ownOf a.ID a.Views).Seen) (_x23.Item) (by omega))
       (Sat.pNodeEN (decide ((headAt (ownOf a.ID a.Views).Seen _x23.Item).L = _x23.S.L) && (decide ((headAt (ownOf a.ID a.Views).Seen _x23.Item).R = _x23.S.R) && (decide ((headAt (ownOf a.ID a.Views).Seen _x23.Item).N = _x23.S.N) && Bool.true))) ((headAt (ownOf a.ID a.Views).Seen _x23.Item).L = _x23.S.L ∧ (headAt (ownOf a.ID a.Views).Seen _x23.Item).R = _x23.S.R ∧ (headAt (ownOf a.ID a.Views).Seen _x23.Item).N = _x23.S.N ∧ True) (by kernel_rfl) (by simp only [Bool.and_eq_true,decide_eq_true_eq])
       (fun _h25 => have _w26 := wI64' ((↑(missAll (headsM m.Issued) m.Repls i + missRow (headsM m.Issued) a k) : Int) + (1 : Int)); have _w27 := wI64' ((↑k : Int) + (1 : Int)); .A (St.mk [(1,.ref
       (.head 1 0) 0 0),(3,.int .i64 (IntKind.i64.wrap ((↑(missAll (headsM m.Issued) m.Repls i + missRow (headsM m.Issued) a k) : Int) + 1))),(4,.tree (List.map encHead (headsM m.Issued))),(5,.int .i64 (↑i : Int)),(6,.int .i64 (IntKind.i64.wrap ((↑k : Int) + 1)))] [(.head 1 0,.box (encMesh m) true)]) (by (clear again again2; (rw [missRow_no ‹_› ‹_›,← Nat.add_assoc]; simp only [*]; rfl))) (again2 (k + (1 : Nat)) (by omega) (by omega)))
       (fun _h25 => have _w28 := wI64' ((↑k : Int) + (1 : Int)); .A (St.mk [(1,.ref
       (.head 1 0) 0 0),(3,.int .i64 (↑(missAll (headsM m.Issued) m.Repls i + missRow (headsM m.Issued) a k) : Int)),(4,.tree (List.map encHead (headsM m.Issued))),(5,.int .i64 (↑i : Int)),(6,.int .i64 (IntKind.i64.wrap ((↑k : Int) + 1)))] [(.head 1 0,.box (encMesh m) true)]) (by (clear again again2; (rw [missRow_yes ‹_› ‹_›]; simp [encMesh, *]; done))) (again2 (k + (1 : Nat)) (by omega) (by omega))))))))))))
       (fun _h22 => have _w29 := wI64' ((↑i : Int) + (1 : Int)); .A (St.mk [(1,.ref
       (.head 1 0) 0 0),(3,.int .i64 (↑(missAll (headsM m.Issued) m.Repls i + missRow (headsM m.Issued) a k) : Int)),(4,.tree (List.map encHead (headsM m.Issued))),(5,.int .i64 (IntKind.i64.wrap ((↑i : Int) + 1)))] [(.head 1 0,.box (encMesh m) true)]) (by (clear again again2; (rw [missAll_succ ha,show k = (headsM m.Issued).length by omega]; simp [encMesh, *]; done))) (again (i + (1 : Nat)) (by (clear again again2; (rw [missAll_succ ha]; have := missRow_le (headsM m.Issued) a (headsM m.Issued).length; refine ⟨by omega, ?_⟩; omega))) (by omega))))
theorem c20 (m : Mesh) (hl : m.Repls.length ≤ 5) (hi : m.Issued.length ≤ 900) (hv : ∀ r ∈ m.Repls,r.Views.length ≤ 1000 ∧ (ownOf r.ID r.Views).Epochs.length ≤ 1000) (hv2 : ∀ r ∈ m.Repls,r.Views.length ≤ 1000 ∧ (ownOf r.ID r.Views).Seen.length ≤ 1000) (he : ∀ r ∈ m.Repls,∀ e ∈ (ownOf r.ID r.Views).Epochs,0 ≤ e ∧ e ≤ 10000000) : X.call 20 [encMesh m] [] ⟨.int .i64 (IntKind.i64.wrap (IntKind.i64.wrap (m.stale * 31) + m.missing)),[],[]⟩ := by
  refine spec_of ok Go.Proofs.Tryz.func20 ok20 ?_
  refine (.c (@Tryz.c16 (m) ‹_› ‹_› ‹_›) (.c (@Tryz.c18 (m) ‹_› ‹_› ‹_›) .r))
end Go.Ab.Tryz
