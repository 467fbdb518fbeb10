/- Package cardamomplay: meshes and runs. -/
import Derived.Test.YtmppanboolejjaaGreatPlay4
import Derived.Test.YtmppanboolejjaaGreatRef25f
import Derived.Test.YtmppanboolejjaaGreatRef25a
namespace Go.Ab.Tryz
open Go
set_option maxRecDepth 100000
set_option maxHeartbeats 4000000
theorem do_zero (s : Step) (hs : StepOk s) : ∃ p : Mesh × Int,X.call 23 [encMesh Mesh.zero,encStep s] [] ⟨.tuple [encMesh p.1,.int .i64 p.2],[],[]⟩ ∧ p.1 = Mesh.zero := by
  have hto := hs.2.1
  have cB : X.call 48 [.tree [],.int .i64 s.R,.int .i64 s.To] [] ⟨.bool false,[],[]⟩ := by
    have := c48 [] s.R s.To (by simp)
    simpa using this
  have cC : ∃ g : Gram,X.call 51 [.tree [],.int .i64 s.I] [] ⟨.tuple [.tree [],encGram g,.bool false],[],[]⟩ := by
    have := c51 [] s.I (by simp)
    refine ⟨(netComes [] s.I).2.1, ?_⟩
    have e : netComes [] s.I = ([],(netComes [] s.I).2.1,false) := by
      unfold netComes
      rw [if_neg (by simp only [List.length_nil]; omega)]
    rw [e] at this; simpa using this
  obtain ⟨g,cC⟩ := cC
  have cL : X.call 55 [.tree [],.int .i64 s.I] [] ⟨.tuple [.tree [],.bool false],[],[]⟩ := by
    have := c55 [] s.I (by simp)
    have e : netComes [] s.I = ([],(netComes [] s.I).2.1,false) := by
      unfold netComes
      rw [if_neg (by simp only [List.length_nil]; omega)]
    rw [e] at this; simpa using this
  have cT : X.call 56 [.tree [],.int .i64 s.I] [] ⟨.tuple [.tree [],.bool false],[],[]⟩ := by
    have := c56 [] s.I (by simp)
    have e : netTwice [] s.I = [] := by
      unfold netTwice
      rw [dif_neg (by simp only [List.length_nil]; omega)]
    rw [e,decide_eq_false (by simp only [List.length_nil]; omega)] at this; simpa using this
  have cU : X.call 57 [.tree [],.int .i64 s.I,.int .i64 s.To] [] ⟨.tuple [.tree [],.bool false],[],[]⟩ := by
    have := c57 [] s.I s.To (by simp) hto
    have e : netTurned [] s.I s.To = ([],false) := by
      unfold netTurned
      rw [dif_neg (by simp only [List.length_nil]; omega)]
    rw [e] at this; simpa using this
  clear hs hto
  have hz : Mesh.zero.Size = 0 := rfl
  refine spec_ex ok Go.Proofs.Tryz.func23 ok23 ?_
  refine (.i (s.Kind = 1) (fun _h11 => .it _h11 (.i (s.R < 1) (fun _h12 => .it _h12 (.it _h12 (.it _h12 (.it _h12 (.it _h12 (.T
   (.r (Mesh.mk 0 0 [] [] [] [],1) (by dsimp only; (clear cB cC cL cT cU; trivial))))))))) (fun _h12 => .iF _h12 (.iF _h12 (.iF _h12 (.iF _h12 (.iF _h12 (.i (Mesh.zero.Size < s.R)
   (fun _h13 => .r (Mesh.mk 0 0 [] [] [] [],1) (by dsimp only; (clear cB cC cL cT cU; trivial))) (fun _h13 => False.elim (by omega)))))))))) (fun _h11 => .i (s.Kind = 2) (fun _h14 => .it _h14
   (.i (s.R < 1) (fun _h15 => .it _h15 (.it _h15 (.it _h15 (.it _h15 (.it _h15 (.T (.r (Mesh.mk 0 0 [] [] [] [],1) (by dsimp only; (clear cB cC cL cT cU; trivial))))))))) (fun _h15 => .iF _h15 (.iF _h15
   (.iF _h15 (.iF _h15 (.iF _h15 (.i (Mesh.zero.Size < s.R) (fun _h16 => .r (Mesh.mk 0 0 [] [] [] [],1) (by dsimp only; (clear cB cC cL cT cU; trivial))) (fun _h16 => False.elim (by omega))))))))))
   (fun _h14 => .i (s.Kind = 3) (fun _h17 => .i (s.R < 1) (fun _h18 => .it _h18 (.it _h18 (.it _h18 (.it _h18 (.it _h18 (.T
   (.r (Mesh.mk 0 0 [] [] [] [],1) (by dsimp only; (clear cB cC cL cT cU; trivial))))))))) (fun _h18 => .iF _h18 (.iF _h18 (.iF _h18 (.iF _h18 (.iF _h18 (.i (Mesh.zero.Size < s.R)
   (fun _h19 => .r (Mesh.mk 0 0 [] [] [] [],1) (by dsimp only; (clear cB cC cL cT cU; trivial))) (fun _h19 => False.elim (by omega))))))))) (fun _h17 => .i (s.Kind = 4) (fun _h20 => .c (@cB) (.T
   (.r (Mesh.mk 0 0 [] [] [] [],1) (by dsimp only; (clear cB cC cL cT cU; trivial))))) (fun _h20 => .i (s.Kind = 5) (fun _h21 => .c (@cC) (.T
   (.r (Mesh.mk 0 0 [] [] [] [],3) (by dsimp only; (clear cB cC cL cT cU; trivial))))) (fun _h21 => .i (s.Kind = 6) (fun _h22 => .c (@cL) (.T
   (.r (Mesh.mk 0 0 [] [] [] [],3) (by dsimp only; (clear cB cC cL cT cU; trivial))))) (fun _h22 => .i (s.Kind = 7) (fun _h23 => .c (@cT) (.T
   (.r (Mesh.mk 0 0 [] [] [] [],3) (by dsimp only; (clear cB cC cL cT cU; trivial))))) (fun _h23 => .i (s.Kind = 8) (fun _h24 => .c (@cU) (.T
   (.r (Mesh.mk 0 0 [] [] [] [],3) (by dsimp only; (clear cB cC cL cT cU; trivial))))) (fun _h24 => .r (Mesh.mk 0 0 [] [] [] [],1) (by dsimp only; (clear cB cC cL cT cU; trivial)))))))))))
abbrev RunOk (j : Nat) (m : Mesh) : Prop := (∃ size,m.Ok size (1000000 + j) j) ∨ m = Mesh.zero
theorem mesh_ex (p : Picks) (hp : p.l.length ≤ 100000) (quota : Int) : ∃ (m : Mesh) (q : Picks),X.call 12 [.ref (.inc 0) 0 0,.int .i64 quota] [.box (encPicks p) true] ⟨encMesh m,[.box (encPicks q) true],[]⟩ ∧ RunOk 0 m ∧ q.l.length ≤ 100000 := by
  obtain ⟨r,p1,c1,r0,r1,l1⟩ := num_ex p hp 4 (by omega) (by omega)
  obtain ⟨n,hn⟩ : ∃ n : Nat,(n : Int) = 1 + r := ⟨(1 + r).toNat,by omega⟩
  obtain ⟨⟨es,p2⟩,c2,e1,l2⟩ := c38 p1 l1 n (by omega) (by omega)
  simp only at c2 e1 l2
  obtain ⟨b,p3,c3,b0,b1,l3⟩ := num_ex p2 (by rw [l2]; exact l1) 4 (by omega) (by omega)
  obtain ⟨⟨m,okb⟩,c4,m0,m1⟩ := c22 n es (1 + b) quota (by omega)
  simp only at c4 m0 m1
  rw [hn] at c2 c4
  refine ⟨m,p3, ?_, ?_,l3⟩
  · clear m0 m1
    refine spec_of ok Go.Proofs.Tryz.func12 ok12 ?_
    refine (.c (@c1) (have _w28 := wI64' ((1 : Int) + r); .C ([.ref (.inc 0) 0 0,.int .i64 (IntKind.i64.wrap (1 + r))]) ([.box (encPicks p1) true]) (by simp only [_w28]) rfl (@c2) (.c (@c3)
     (have _w29 := wI64' ((1 : Int) + b); .C ([.int .i64 (IntKind.i64.wrap (1 + r)),.tree (List.map encEdge es),.int .i64 (IntKind.i64.wrap (1 + b)),.int .i64 quota]) ([]) (by simp only [_w29,_w28]) rfl (@c4) .r))))
  · cases okb with
    | false => exact Or.inr (m0 rfl)
    | true =>
      obtain ⟨-,-,k3,k4,-,-,k7,k8⟩ := m1 rfl
      rw [k8]
      exact Or.inl ⟨n,by rw [show (n : Int).toNat = n by omega]; exact newMesh_ok (by omega) (by omega) k3 k4 (by omega) k7 e1⟩
theorem step_do (j : Nat) (hj : j ≤ 9000) (m : Mesh) (hm : RunOk j m) (p : Picks) (hp : p.l.length ≤ 100000) : ∃ (s : Step) (q : Picks) (m' : Mesh) (e : Int),X.call 37 [.ref (.inc 0) 0 0,encMesh m] [.box (encPicks p) true] ⟨encStep s,[.box (encPicks q) true],[]⟩ ∧ X.call 23 [encMesh m,encStep s] [] ⟨.tuple [encMesh m',.int .i64 e],[],[]⟩ ∧ RunOk (j + 1) m' ∧ q.l.length ≤ 100000 := by
  rcases hm with ⟨size,h⟩ | rfl
  · obtain ⟨s,q,c,hs,l⟩ := step_ex p hp m (by have := h.sz; have := h.s5; omega) h.el h.fl (fun e he => by have := h.ed e he; have := h.s5; omega)
    obtain ⟨⟨m',e⟩,c2,h2⟩ := do_ex m s size j _ h (by omega) (by omega) hj hs.2.2.1 hs.2.2.2.1 hs.2.2.2.2 hs.2.1 hs.1
    refine ⟨s,q,m',e,c,c2,Or.inl ⟨size, ?_⟩,l⟩
    rw [show (1000000 : Int) + ((j + 1 : Nat) : Int) = 1000000 + j + 1 by omega]; exact h2
  · obtain ⟨s,q,c,hs,l⟩ := step_ex p hp Mesh.zero (by decide) (by simp [Mesh.zero]) (by simp [Mesh.zero]) (fun e he => by simp [Mesh.zero] at he)
    obtain ⟨⟨m',e⟩,c2,h2⟩ := do_zero s hs
    exact ⟨s,q,m',e,c,c2,Or.inr h2,l⟩
theorem RunOk.mono {j j' : Nat} {m : Mesh} (h : RunOk j m) (hj : j ≤ j') : RunOk j' m := by
  rcases h with ⟨size,h⟩ | h
  · exact Or.inl ⟨size,h.mono (by omega) hj⟩
  · exact Or.inr h
theorem run_ex (m : Mesh) (hm : RunOk 0 m) (p : Picks) (hp : p.l.length ≤ 100000) (most : Nat) (hmost : most ≤ 9000) : ∃ (o : Mesh × Picks),X.call 11 [.ref (.inc 0) 0 0,encMesh m,.int .i64 most] [.box (encPicks p) true] ⟨encMesh o.1,[.box (encPicks o.2) true],[]⟩ ∧ RunOk most o.1 ∧ o.2.l.length ≤ 100000 := by
  refine spec_ex ok Go.Proofs.Tryz.func11 ok11 ?_
  refine ?_
  refine SatE.pLoop 2 (St.mk [(0,.ref (.inc 0) 0 0),(2,.int .i64 (↑most : Int)),(4,.ref (.head 4 0) 0 0),(6,.ref (.head 6 0) 0 0),(7,.int .i64 0)] [(.inc 0,.box (encPicks p) true),
   (.head 4 0,.box (encMesh m) true),(.head 6 0,.box (.agg [.int .i64 0,.int .i64 0,.nils,.nils,.nils,.nils]) true)]) (by kernel_rfl) (fun (s : Nat × Picks × Mesh) => ⟨[(0,.ref
   (.inc 0) 0 0),(2,.int .i64 most),(4,.ref (.head 4 0) 0 0),(6,.ref (.head 6 0) 0 0),(7,.int .i64 s.1)],[(.inc 0,.box (encPicks s.2.1) true),(.head 4 0,.box (encMesh s.2.2) true),
   (.head 6 0,.box (.agg [.int .i64 0,.int .i64 0,.nils,.nils,.nils,.nils]) true)]⟩) (fun s => s.1 ≤ most ∧ RunOk s.1 s.2.2 ∧ s.2.1.l.length ≤ 100000) (fun s => most - s.1) (0,p,m) rfl ?_ ?_
  · exact ⟨by simp,hm,hp⟩
  · rintro ⟨i,q,w⟩ hI again
    obtain ⟨i1,i2,i3⟩ := hI
    simp only at i1 i2 i3
    obtain ⟨s,q2,w2,e,cS,cD,o2,l2⟩ := step_do i (by omega) w i2 q i3
    refine (.k ((↑i : Int) < (↑most : Int)) (i < most) (by simp only [Int.ofNat_lt]) (fun _h23 => .et ((↑i : Int) < (↑most : Int)) (by simp only [Int.ofNat_lt]) _h23 (.c (@Tryz.c36 (q) ‹_›)
     (.et ((↑i : Int) < (↑most : Int)) (by simp only [Int.ofNat_lt]) _h23 (.et ((↑i : Int) < (↑most : Int)) (by simp only [Int.ofNat_lt]) _h23 (.j (q.l.length ≤ q.n) (fun _h24 => .c (@cS) (.c (@cD)
     (have _w25 := wI64' ((↑i : Int) + (1 : Int)); .A (St.mk [(0,.ref (.inc 0) 0 0),(2,.int .i64 (↑most : Int)),(4,.ref (.head 4 0) 0 0),(6,.ref
     (.head 6 0) 0 0),(7,.int .i64 (IntKind.i64.wrap ((↑i : Int) + 1)))] [(.inc 0,.box (encPicks q2) true),(.head 4 0,.box (encMesh w2) true),(.head 6 0,.box
     (.agg [.int .i64 0,.int .i64 0,.nils,.nils,.nils,.nils]) true)]) (by simp [encPicks,encMesh,_w25]) (again ((i + (1 : Nat),Picks.mk q2.l q2.n,Mesh.mk w2.Size w2.Batch w2.Edges w2.Repls w2.Fly w2.Issued)) ⟨(by dsimp only; omega),⟨(by dsimp only; omega),(by dsimp only; omega)⟩⟩ (by dsimp only; omega)))))
     (fun _h24 => .r (Mesh.mk w.Size w.Batch w.Edges w.Repls w.Fly w.Issued,Picks.mk q.l q.n) ⟨(by dsimp only; (clear again cS cD; (exact RunOk.mono i2 i1))),(by dsimp only; (clear again cS cD; trivial))⟩))))))
     (fun _h23 => .eF ((↑i : Int) < (↑most : Int)) (by simp only [Int.ofNat_lt]) _h23 (.eF ((↑i : Int) < (↑most : Int)) (by simp only [Int.ofNat_lt]) _h23
     (.eF ((↑i : Int) < (↑most : Int)) (by simp only [Int.ofNat_lt]) _h23 (.F
     (.r (Mesh.mk w.Size w.Batch w.Edges w.Repls w.Fly w.Issued,Picks.mk q.l q.n) ⟨(by dsimp only; (clear again cS cD; (exact RunOk.mono i2 i1))),(by dsimp only; (clear again cS cD; trivial))⟩))))))
end Go.Ab.Tryz
