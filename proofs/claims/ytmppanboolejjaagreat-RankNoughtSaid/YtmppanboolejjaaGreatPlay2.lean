/- Package cardamomplay: steps, as plain Lean. -/
import Derived.Test.YtmppanboolejjaaGreatPlay
import Derived.Test.YtmppanboolejjaaGreatRef25a
namespace Go.Ab.Tryz
open Go
set_option maxRecDepth 100000
set_option maxHeartbeats 4000000
theorem c38 (p : Picks) (hp : p.l.length ≤ 100000) (size : Nat) (h1 : 1 ≤ size) (h5 : size ≤ 5) : ∃ o : List Edge × Picks,X.call 38 [.ref (.inc 0) 0 0,.int .i64 size] [.box (encPicks p) true] ⟨.tree (o.1.map encEdge),[.box (encPicks o.2) true],[]⟩ ∧ o.1.length ≤ 20 ∧ o.2.l = p.l := by
  refine spec_ex ok Go.Proofs.Tryz.func38 ok38 ?_
  have again_f : ∀ (q : Picks) (hq : q.l = p.l) (es : List Edge) (he : es.length ≤ 6) (n : Int) (hn : n ≤ 3),SatE X 38 (loopD X.cfg 38 Go.Proofs.Tryz.f38 1 7 ⟨[(0,.ref (.inc 0) 0 0),(1,.int .i64 size),(5,.tree (es.map encEdge)),(7,.int .i64 n)],[(.inc 0,.box (encPicks q) true)]⟩) (fun r => ∃ v : List Edge × Picks,r = ⟨.tree (v.1.map encEdge),[.box (encPicks v.2) true],[]⟩ ∧ v.1.length ≤ 20 ∧ v.2.l = p.l) := by
    intro q hq es he n hn
    refine SatE.pLoop 7 (St.mk [(0,.ref
     (.inc 0) 0 0),(1,.int .i64 (↑size : Int)),(5,.tree (List.map encEdge es)),(7,.int .i64 n)] [(.inc 0,.box (encPicks q) true)]) (by kernel_rfl) (fun (s : Int × Picks × List Edge) => ⟨[(0,.ref
     (.inc 0) 0 0),(1,.int .i64 size),(5,.tree (s.2.2.map encEdge)),(7,.int .i64 s.1)],[(.inc 0,.box (encPicks s.2.1) true)]⟩) (fun s => s.1 ≤ 3 ∧ s.2.2.length + s.1 ≤ 9 ∧ s.2.2.length ≤ 9 ∧ s.2.1.l = p.l) (fun s => s.1.toNat) (n,q,es) rfl ?_ ?_
    · exact ⟨hn,by dsimp only; omega,by dsimp only; omega,hq⟩
    · rintro ⟨i,q,es⟩ hI again
      obtain ⟨b1,b0,b2,b3⟩ := hI
      simp only at b0 b1 b2 b3
      have hq : q.l.length ≤ 100000 := by rw [b3]; exact hp
      refine (.i (0 < i) (fun _h22 => .it _h22 (.it _h22 (.k (2 < (↑size : Int)) (2 < size) (by simp only [ciLt])
       (fun _h23 => have _hc24 := ((@Tryz.c13 (q) ((↑size : Int)) ‹_› (by omega) (by omega))).2.1; have _hc25 := ((@Tryz.c13 (q) ((↑size : Int)) ‹_› (by omega) (by omega))).2.2.1; have _hc26 := ((@Tryz.c13 (q) ((↑size : Int)) ‹_› (by omega) (by omega))).2.2.2; .c ((@Tryz.c13 (q) ((↑size : Int)) ‹_› (by omega) (by omega))).1
       (have _hc27 := ((@Tryz.c13 ((q.num (↑size : Int)).snd) ((↑size : Int)) (by simp only [Picks.num_l,Picks.tag_l, *]; done) (by omega) (by omega))).2.1; have _hc28 := ((@Tryz.c13 ((q.num (↑size : Int)).snd) ((↑size : Int)) (by simp only [Picks.num_l,Picks.tag_l, *]; done) (by omega) (by omega))).2.2.1; have _hc29 := ((@Tryz.c13 ((q.num (↑size : Int)).snd) ((↑size : Int)) (by simp only [Picks.num_l,Picks.tag_l, *]; done) (by omega) (by omega))).2.2.2; .c ((@Tryz.c13 ((q.num (↑size : Int)).snd) ((↑size : Int)) (by simp only [Picks.num_l,Picks.tag_l, *]; done) (by omega) (by omega))).1
       (have _w30 := wI64' ((1 : Int) + (q.num (↑size : Int)).fst); have _w31 := wI64' ((1 : Int) + ((q.num (↑size : Int)).snd.num (↑size : Int)).fst); .l (IntKind.i64.wrap (1 + (q.num (↑size : Int)).fst) = IntKind.i64.wrap (1 + ((q.num (↑size : Int)).snd.num (↑size : Int)).fst)) (1 + (q.num (↑size : Int)).fst = 1 + ((q.num (↑size : Int)).snd.num (↑size : Int)).fst) (by simp only [_w31,_w30])
       (fun _h32 => Exists.elim (@Tryz.c73 (es) (Edge.mk (if (1 : Int) + ((q.num (↑size : Int)).snd.num (↑size : Int)).fst < (1 : Int) + (q.num (↑size : Int)).fst then (1 : Int) + ((q.num (↑size : Int)).snd.num (↑size : Int)).fst else (1 : Int) + (q.num (↑size : Int)).fst) (if (1 : Int) + ((q.num (↑size : Int)).snd.num (↑size : Int)).fst > (1 : Int) + (q.num (↑size : Int)).fst then (1 : Int) + ((q.num (↑size : Int)).snd.num (↑size : Int)).fst else (1 : Int) + (q.num (↑size : Int)).fst)) (by omega))
       (fun _y33 ⟨_hz34,_hc35⟩ => .C ([.tree (List.map encEdge es),.agg [.int .i64 (if IntKind.i64.wrap (1 + ((q.num (↑size : Int)).snd.num (↑size : Int)).fst) < IntKind.i64.wrap (1 + (q.num (↑size : Int)).fst) then IntKind.i64.wrap (1 + ((q.num (↑size : Int)).snd.num (↑size : Int)).fst) else IntKind.i64.wrap (1 + (q.num (↑size : Int)).fst)),.int .i64 (if IntKind.i64.wrap (1 + ((q.num (↑size : Int)).snd.num (↑size : Int)).fst) > IntKind.i64.wrap (1 + (q.num (↑size : Int)).fst) then IntKind.i64.wrap (1 + ((q.num (↑size : Int)).snd.num (↑size : Int)).fst) else IntKind.i64.wrap (1 + (q.num (↑size : Int)).fst))]]) ([]) (by simp [encEdge,_w31,_w30]) rfl _hz34
       (have _w36 := wI64' (i - (1 : Int)); .A (St.mk [(0,.ref (.inc 0) 0 0),(1,.int .i64 (↑size : Int)),(5,.tree (List.map encEdge _y33)),(7,.int .i64 (IntKind.i64.wrap (i - 1)))] [(.inc 0,.box
       (.agg [.tree (List.map encB ((q.num (↑size : Int)).snd.num (↑size : Int)).snd.l),.int .i64 (↑((q.num (↑size : Int)).snd.num (↑size : Int)).snd.n : Int)]) true)]) (by simp [encPicks,_w36]) (again ((i - (1 : Int),Picks.mk ((q.num (↑size : Int)).snd.num (↑size : Int)).2.l ((q.num (↑size : Int)).snd.num (↑size : Int)).2.n,_y33)) ⟨(by dsimp only; omega),⟨(by dsimp only; omega),⟨(by dsimp only; omega),(by dsimp only; simp only [Picks.num_l,Picks.tag_l, *]; done)⟩⟩⟩ (by dsimp only; omega)))))
       (fun _h32 => have _w37 := wI64' (i - (1 : Int)); .A (St.mk [(0,.ref
       (.inc 0) 0 0),(1,.int .i64 (↑size : Int)),(5,.tree (List.map encEdge es)),(7,.int .i64 (IntKind.i64.wrap (i - 1)))] [(.inc 0,.box
       (.agg [.tree (List.map encB ((q.num (↑size : Int)).snd.num (↑size : Int)).snd.l),.int .i64 (↑((q.num (↑size : Int)).snd.num (↑size : Int)).snd.n : Int)]) true)]) (by simp [encPicks,_w37]) (again ((i - (1 : Int),Picks.mk ((q.num (↑size : Int)).snd.num (↑size : Int)).2.l ((q.num (↑size : Int)).snd.num (↑size : Int)).2.n,es)) ⟨(by dsimp only; omega),⟨(by dsimp only; omega),⟨(by dsimp only; omega),(by dsimp only; simp only [Picks.num_l,Picks.tag_l, *]; done)⟩⟩⟩ (by dsimp only; omega))))))
       (fun _h23 => .r (es,Picks.mk q.l q.n) ⟨(by dsimp only; omega),(by show q.l = p.l; (clear again; trivial))⟩)))) (fun _h22 => .iF _h22 (.iF _h22 (.F
       (.r (es,Picks.mk q.l q.n) ⟨(by dsimp only; omega),(by show q.l = p.l; (clear again; trivial))⟩)))))
  refine ?_
  refine SatE.pUnroll 3 (St.mk [(0,.ref (.inc 0) 0 0),(1,.int .i64 (↑size : Int)),(5,.sref (.head 5 0) 0 0),(6,.int .i64 2)] [(.inc 0,.box (encPicks p) true),
   (.head 5 0,.row 2 [] true true)]) (by kernel_rfl) ?_
  refine (.k (2 ≤ (↑size : Int)) (2 ≤ size) (by simp only [ciLe])
   (fun _h7 => have _w8 := wI64' ((2 : Int) - (1 : Int)); have _hc9 := ((@Tryz.c13 (p) ((2 : Int) - (1 : Int)) ‹_› (by omega) (by omega))).2.1; have _hc10 := ((@Tryz.c13 (p) ((2 : Int) - (1 : Int)) ‹_› (by omega) (by omega))).2.2.1; have _hc11 := ((@Tryz.c13 (p) ((2 : Int) - (1 : Int)) ‹_› (by omega) (by omega))).2.2.2; .c ((@Tryz.c13 (p) ((2 : Int) - (1 : Int)) ‹_› (by omega) (by omega))).1
   (have _w12 := wI64' ((1 : Int) + (p.num ((2 : Int) - (1 : Int))).fst); Exists.elim (@Tryz.c73 ([]) (Edge.mk ((1 : Int) + (p.num ((2 : Int) - (1 : Int))).fst) (2 : Int)) (by show (0 : Nat) ≤ (1000 : Nat); omega))
   (fun _y13 _hz14 => have _hc15 : _y13.length ≤ (1 : Nat) := _hz14.2; .C ([.tree [],.agg [.int .i64 (IntKind.i64.wrap (1 + (p.num (2 - 1)).fst)),.int .i64 2]]) ([]) (by simp only [encEdge,List.map_nil, *]; done) rfl _hz14.1
   (have _w16 := wI64' ((2 : Int) + (1 : Int)); ?_))))
   (fun _h7 => have _hc17 := ((@Tryz.c13 (p) ((3 : Int)) ‹_› (by omega) (by omega))).2.1; have _hc18 := ((@Tryz.c13 (p) ((3 : Int)) ‹_› (by omega) (by omega))).2.2.1; have _hc19 := ((@Tryz.c13 (p) ((3 : Int)) ‹_› (by omega) (by omega))).2.2.2; .c ((@Tryz.c13 (p) ((3 : Int)) ‹_› (by omega) (by omega))).1 ?_))
  · clear _hz14
    refine SatE.pLoop 3 (St.mk [(0,.ref (.inc 0) 0 0),(1,.int .i64 (↑size : Int)),(5,.tree (List.map encEdge _y13)),(6,.int .i64 (IntKind.i64.wrap (2 + 1)))] [(.inc 0,.box
     (.agg [.tree (List.map encB (p.num (2 - 1)).snd.l),.int .i64 (↑(p.num (2 - 1)).snd.n : Int)]) true)]) (by kernel_rfl) (fun (s : Nat × Picks × List Edge) => ⟨[(0,.ref
     (.inc 0) 0 0),(1,.int .i64 size),(5,.tree (s.2.2.map encEdge)),(6,.int .i64 s.1)],[(.inc 0,.box (encPicks s.2.1) true)]⟩) (fun s => 2 ≤ s.1 ∧ s.1 ≤ size + 1 ∧ s.2.2.length ≤ s.1 ∧ s.2.1.l = p.l) (fun s => size + 1 - s.1) (3,(p.num (2 - 1)).2,_y13) rfl ?_ ?_
    · exact ⟨by dsimp only; omega,by dsimp only; omega,by dsimp only; omega,by dsimp only; exact p.num_l _⟩
    · rintro ⟨b,q,es⟩ hI again
      obtain ⟨b1,b0,b2,b3⟩ := hI
      simp only at b1 b2 b3
      have hq : q.l.length ≤ 100000 := by rw [b3]; exact hp
      refine (.k ((↑b : Int) ≤ (↑size : Int)) (b ≤ size) (by simp only [Int.ofNat_le])
       (fun _h27 => have _w28 := wI64' ((↑b : Int) - (1 : Int)); have _hc29 := ((@Tryz.c13 (q) ((↑b : Int) - (1 : Int)) ‹_› (by omega) (by omega))).2.1; have _hc30 := ((@Tryz.c13 (q) ((↑b : Int) - (1 : Int)) ‹_› (by omega) (by omega))).2.2.1; have _hc31 := ((@Tryz.c13 (q) ((↑b : Int) - (1 : Int)) ‹_› (by omega) (by omega))).2.2.2; .C ([.ref
       (.inc 0) 0 0,.int .i64 (IntKind.i64.wrap ((↑b : Int) - 1))]) ([.box (encPicks q) true]) (by simp only [_w28]) rfl ((@Tryz.c13 (q) ((↑b : Int) - (1 : Int)) ‹_› (by omega) (by omega))).1
       (have _w32 := wI64' ((1 : Int) + (q.num ((↑b : Int) - (1 : Int))).fst); Exists.elim (@Tryz.c73 (es) (Edge.mk ((1 : Int) + (q.num ((↑b : Int) - (1 : Int))).fst) (↑b : Int)) (by omega))
       (fun _y33 ⟨_hz34,_hc35⟩ => .C ([.tree (List.map encEdge es),.agg [.int .i64 (IntKind.i64.wrap (1 + (q.num ((↑b : Int) - 1)).fst)),.int .i64 (↑b : Int)]]) ([]) (by simp [encEdge,_w32]) rfl _hz34
       (have _w36 := wI64' ((↑b : Int) + (1 : Int)); .A (St.mk [(0,.ref
       (.inc 0) 0 0),(1,.int .i64 (↑size : Int)),(5,.tree (List.map encEdge _y33)),(6,.int .i64 (IntKind.i64.wrap ((↑b : Int) + 1)))] [(.inc 0,.box
       (.agg [.tree (List.map encB (q.num ((↑b : Int) - 1)).snd.l),.int .i64 (↑(q.num ((↑b : Int) - 1)).snd.n : Int)]) true)]) (by simp [encPicks,_w36]) (again ((b + (1 : Nat),Picks.mk (q.num ((↑b : Int) - (1 : Int))).2.l (q.num ((↑b : Int) - (1 : Int))).2.n,_y33)) ⟨(by dsimp only; omega),⟨(by dsimp only; omega),⟨(by dsimp only; omega),(by dsimp only; simp only [Picks.num_l,Picks.tag_l, *]; done)⟩⟩⟩ (by dsimp only; omega))))))
       (fun _h27 => have _hc37 := ((@Tryz.c13 (q) ((3 : Int)) ‹_› (by omega) (by omega))).2.1; have _hc38 := ((@Tryz.c13 (q) ((3 : Int)) ‹_› (by omega) (by omega))).2.2.1; have _hc39 := ((@Tryz.c13 (q) ((3 : Int)) ‹_› (by omega) (by omega))).2.2.2; .c ((@Tryz.c13 (q) ((3 : Int)) ‹_› (by omega) (by omega))).1
       (SatE.pJoinE (L := loopD X.cfg (38 : FuncId) Proofs.Tryz.f38 1 7) (St.mk [(0,.ref
       (.inc 0) 0 0),(1,.int .i64 (↑size : Int)),(5,.tree (List.map encEdge es)),(7,.int .i64 (q.num 3).fst)] [(.inc 0,.box
       (.agg [.tree (List.map encB (q.num 3).snd.l),.int .i64 (↑(q.num 3).snd.n : Int)]) true)]) (by kernel_rfl) rfl rfl (again_f ((q.num (3 : Int)).snd) (by simp only [Picks.num_l,Picks.tag_l, *]; done) (es) (by omega) ((q.num (3 : Int)).fst) (by omega)))))
  · refine SatE.pUnroll 7 (St.mk [(0,.ref (.inc 0) 0 0),(1,.int .i64 (↑size : Int)),(5,.sref (.head 5 0) 0 0),(7,.int .i64 (p.num 3).fst)] [(.inc 0,.box
     (.agg [.tree (List.map encB (p.num 3).snd.l),.int .i64 (↑(p.num 3).snd.n : Int)]) true),(.head 5 0,.row 2 [] true true)]) (by kernel_rfl) ?_
    refine (.i (0 < (p.num 3).fst) (fun _h11 => .it _h11 (.it _h11 (.k (2 < (↑size : Int)) (2 < size) (by simp only [ciLt]) (fun _h12 => False.elim (by omega))
     (fun _h12 => .r ([],Picks.mk (p.num 3).2.l (p.num 3).2.n) ⟨(by dsimp only; (clear again_f; trivial)),(by dsimp only; (clear again_f; trivial))⟩)))) (fun _h11 => .iF _h11 (.iF _h11 (.F
     (.r ([],Picks.mk (p.num 3).2.l (p.num 3).2.n) ⟨(by dsimp only; (clear again_f; trivial)),(by dsimp only; (clear again_f; trivial))⟩)))))
end Go.Ab.Tryz
