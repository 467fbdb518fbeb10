/- Package cardamomplay: steps, as plain Lean. -/
import Derived.Test.YtmhceknpmokahaaGreatDoorPlay
import Derived.Test.YtmhceknpmokahaaGreatDoorRef25a
namespace Go.Ab.Tryz
open Go
set_option maxRecDepth 100000
set_option maxHeartbeats 4000000
theorem c113 (p:Picks) (hp:p.l.length≤100000) (size:Nat) (h1:1≤size) (h5:size≤5):∃o:List Edge×Picks,X.call 113 [.ref (.inc 0) 0 0,.int .i64 size] [.box (encPicks p) true] ⟨.tree (o.1.map encEdge),[.box (encPicks o.2) true],[]⟩∧o.1.length≤20∧o.2.l=p.l∧EdgesOk size o.1:=by
 refine spec_ex ok Go.Proofs.Tryz.func113 ok113 ?_
 have again_f:∀(q:Picks) (hq:q.l=p.l) (es:List Edge) (he:es.length≤6) (hes:EdgesOk size es) (n:Int) (hn:n≤3),SatE X 113 (loopD X.cfg 113 Go.Proofs.Tryz.f113 1 7 ⟨[(0,.ref (.inc 0) 0 0),(1,.int .i64 size),(5,.tree (es.map encEdge)),(7,.int .i64 n)],[(.inc 0,.box (encPicks q) true)]⟩) (fun r=>∃v:List Edge×Picks,r=⟨.tree (v.1.map encEdge),[.box (encPicks v.2) true],[]⟩∧v.1.length≤20∧v.2.l=p.l∧EdgesOk size v.1):=by
  intro q hq es he hes n hn
  refine SatE.pLoop 7 (St.mk [(0,.ref
   (.inc 0) 0 0),(1,.int .i64 (↑size:Int)),(5,.tree (List.map encEdge es)),(7,.int .i64 n)] [(.inc 0,.box (encPicks q) true)]) (by kernel_rfl) (fun(s:Int×Picks×List Edge)=>⟨[(0,.ref
   (.inc 0) 0 0),(1,.int .i64 size),(5,.tree (s.2.2.map encEdge)),(7,.int .i64 s.1)],[(.inc 0,.box (encPicks s.2.1) true)]⟩) (fun s=>s.1≤3∧s.2.2.length+s.1≤9∧s.2.2.length≤9∧s.2.1.l=p.l∧EdgesOk size s.2.2) (fun s=>s.1.toNat) (n,q,es) rfl ?_ ?_
  ·exact⟨hn,by dsimp only;omega,by dsimp only;omega,hq,hes⟩
  ·rintro⟨i,q,es⟩ hI again
   obtain⟨b1,b0,b2,b3,b4⟩:=hI
   simp only at b0 b1 b2 b3 b4
   have hq:q.l.length≤100000:=by rw[b3];exact hp
   have hord:=b4.o
   have hjl:∀e,((joinE es e).length:Int)+(i-1)≤9:=fun e=>by have:=joinE_len es e;omega
   refine(.i (0<i) (fun a0=> .it a0 (.it a0 (.k (2<(↑size:Int)) (2<size) (by simp only[ciLt])
    (fun a6=>have ag:=((@Tryz.c63 (q) ((↑size:Int)) ‹_› (by omega) (by omega))).2.1;have ah:=((@Tryz.c63 (q) ((↑size:Int)) ‹_› (by omega) (by omega))).2.2.1;have ai:=((@Tryz.c63 (q) ((↑size:Int)) ‹_› (by omega) (by omega))).2.2.2; .c ((@Tryz.c63 (q) ((↑size:Int)) ‹_› (by omega) (by omega))).1
    (have a7:=((@Tryz.c63 ((q.num (↑size:Int)).snd) ((↑size:Int)) (by simp only[Picks.num_l,Picks.tag_l, *];done) (by omega) (by omega))).2.1;have a8:=((@Tryz.c63 ((q.num (↑size:Int)).snd) ((↑size:Int)) (by simp only[Picks.num_l,Picks.tag_l, *];done) (by omega) (by omega))).2.2.1;have a9:=((@Tryz.c63 ((q.num (↑size:Int)).snd) ((↑size:Int)) (by simp only[Picks.num_l,Picks.tag_l, *];done) (by omega) (by omega))).2.2.2; .c ((@Tryz.c63 ((q.num (↑size:Int)).snd) ((↑size:Int)) (by simp only[Picks.num_l,Picks.tag_l, *];done) (by omega) (by omega))).1
    (have a4:=wI64' ((1:Int)+(q.num (↑size:Int)).fst);have a5:=wI64' ((1:Int)+((q.num (↑size:Int)).snd.num (↑size:Int)).fst); .l (IntKind.i64.wrap (1+(q.num (↑size:Int)).fst)=IntKind.i64.wrap (1+((q.num (↑size:Int)).snd.num (↑size:Int)).fst)) (1+(q.num (↑size:Int)).fst=1+((q.num (↑size:Int)).snd.num (↑size:Int)).fst) (by simp only[a5,a4])
    (fun aa=> .C ([.tree (List.map encEdge es),.agg [.int .i64 (if IntKind.i64.wrap (1+((q.num (↑size:Int)).snd.num (↑size:Int)).fst)<IntKind.i64.wrap (1+(q.num (↑size:Int)).fst)then IntKind.i64.wrap (1+((q.num (↑size:Int)).snd.num (↑size:Int)).fst)else IntKind.i64.wrap (1+(q.num (↑size:Int)).fst)),.int .i64 (if IntKind.i64.wrap (1+((q.num (↑size:Int)).snd.num (↑size:Int)).fst)>IntKind.i64.wrap (1+(q.num (↑size:Int)).fst)then IntKind.i64.wrap (1+((q.num (↑size:Int)).snd.num (↑size:Int)).fst)else IntKind.i64.wrap (1+(q.num (↑size:Int)).fst))]]) ([]) (by simp[encEdge,a5,a4]) rfl (@Tryz.c175 (es) (Edge.mk (if(1:Int)+((q.num (↑size:Int)).snd.num (↑size:Int)).fst<(1:Int)+(q.num (↑size:Int)).fst then(1:Int)+((q.num (↑size:Int)).snd.num (↑size:Int)).fst else(1:Int)+(q.num (↑size:Int)).fst) (if(1:Int)+((q.num (↑size:Int)).snd.num (↑size:Int)).fst>(1:Int)+(q.num (↑size:Int)).fst then(1:Int)+((q.num (↑size:Int)).snd.num (↑size:Int)).fst else(1:Int)+(q.num (↑size:Int)).fst)) (by omega) ‹_›)
    (have ab:=wI64' (i-(1:Int)); .A (St.mk [(0,.ref
    (.inc 0) 0 0),(1,.int .i64 (↑size:Int)),(5,.tree (List.map encEdge (joinE es (Edge.mk (if 1+((q.num (↑size:Int)).snd.num (↑size:Int)).fst<1+(q.num (↑size:Int)).fst then 1+((q.num (↑size:Int)).snd.num (↑size:Int)).fst else 1+(q.num (↑size:Int)).fst) (if 1+((q.num (↑size:Int)).snd.num (↑size:Int)).fst>1+(q.num (↑size:Int)).fst then 1+((q.num (↑size:Int)).snd.num (↑size:Int)).fst else 1+(q.num (↑size:Int)).fst))))),(7,.int .i64 (IntKind.i64.wrap (i-1)))] [(.inc 0,.box
    (.agg [.tree (List.map encB ((q.num (↑size:Int)).snd.num (↑size:Int)).snd.l),.int .i64 (↑((q.num (↑size:Int)).snd.num (↑size:Int)).snd.n:Int)]) true)]) (by simp[encPicks,ab]) (again ((i-(1:Int),Picks.mk ((q.num (↑size:Int)).snd.num (↑size:Int)).2.l ((q.num (↑size:Int)).snd.num (↑size:Int)).2.n,joinE es (Edge.mk (if(1:Int)+((q.num (↑size:Int)).snd.num (↑size:Int)).fst<(1:Int)+(q.num (↑size:Int)).fst then(1:Int)+((q.num (↑size:Int)).snd.num (↑size:Int)).fst else(1:Int)+(q.num (↑size:Int)).fst) (if(1:Int)+((q.num (↑size:Int)).snd.num (↑size:Int)).fst>(1:Int)+(q.num (↑size:Int)).fst then(1:Int)+((q.num (↑size:Int)).snd.num (↑size:Int)).fst else(1:Int)+(q.num (↑size:Int)).fst)))) ⟨(by dsimp only;omega),⟨(by dsimp only;(clear again;(exact hjl _))),⟨(by dsimp only;(clear again;(refine Nat.le_trans (joinE_len _ _) ?_;omega))),⟨(by dsimp only;simp only[Picks.num_l,Picks.tag_l, *];done),(by dsimp only;(clear again;(exact EdgesOk.more b4 (by dsimp only;omega) (by dsimp only;omega) (by dsimp only;omega))))⟩⟩⟩⟩ (by dsimp only;omega))))
    (fun aa=>have ac:=wI64' (i-(1:Int)); .A (St.mk [(0,.ref
    (.inc 0) 0 0),(1,.int .i64 (↑size:Int)),(5,.tree (List.map encEdge es)),(7,.int .i64 (IntKind.i64.wrap (i-1)))] [(.inc 0,.box
    (.agg [.tree (List.map encB ((q.num (↑size:Int)).snd.num (↑size:Int)).snd.l),.int .i64 (↑((q.num (↑size:Int)).snd.num (↑size:Int)).snd.n:Int)]) true)]) (by simp[encPicks,ac]) (again ((i-(1:Int),Picks.mk ((q.num (↑size:Int)).snd.num (↑size:Int)).2.l ((q.num (↑size:Int)).snd.num (↑size:Int)).2.n,es)) ⟨(by dsimp only;omega),⟨(by dsimp only;omega),⟨(by dsimp only;omega),⟨(by dsimp only;simp only[Picks.num_l,Picks.tag_l, *];done),(by dsimp only;omega)⟩⟩⟩⟩ (by dsimp only;omega))))))
    (fun a6=> .r (es,Picks.mk q.l q.n) ⟨(by dsimp only;omega),⟨(by show q.l=p.l;(clear again;trivial)),(by dsimp only;(clear again;trivial))⟩⟩)))) (fun a0=> .iF a0 (.iF a0 (.F
    (.r (es,Picks.mk q.l q.n) ⟨(by dsimp only;omega),⟨(by show q.l=p.l;(clear again;trivial)),(by dsimp only;(clear again;trivial))⟩⟩)))))
 refine ?_
 refine SatE.pUnroll 3 (St.mk [(0,.ref (.inc 0) 0 0),(1,.int .i64 (↑size:Int)),(5,.sref (.head 5 0) 0 0),(6,.int .i64 2)] [(.inc 0,.box (encPicks p) true),
  (.head 5 0,.row 2 [] true true)]) (by kernel_rfl) ?_
 have hnil:List.Pairwise edLt ([] :List Edge):=List.Pairwise.nil
 refine(.k (2≤(↑size:Int)) (2≤size) (by simp only[ciLe])
  (fun _h8=>have _w9:=wI64' ((2:Int)-(1:Int));have aj:=((@Tryz.c63 (p) ((2:Int)-(1:Int)) ‹_› (by omega) (by omega))).2.1;have ak:=((@Tryz.c63 (p) ((2:Int)-(1:Int)) ‹_› (by omega) (by omega))).2.2.1;have al:=((@Tryz.c63 (p) ((2:Int)-(1:Int)) ‹_› (by omega) (by omega))).2.2.2; .c ((@Tryz.c63 (p) ((2:Int)-(1:Int)) ‹_› (by omega) (by omega))).1
  (have am:=wI64' ((1:Int)+(p.num ((2:Int)-(1:Int))).fst); .C ([.tree [],.agg [.int .i64 (IntKind.i64.wrap (1+(p.num (2-1)).fst)),.int .i64 2]]) ([]) (by simp only[encEdge,List.map_nil, *];done) rfl (@Tryz.c175 ([]) (Edge.mk ((1:Int)+(p.num ((2:Int)-(1:Int))).fst) (2:Int)) (by show(0:Nat)≤(1000:Nat);omega) ‹_›)
  (have an:=wI64' ((2:Int)+(1:Int)); ?_)))
  (fun _h8=>have ao:=((@Tryz.c63 (p) ((3:Int)) ‹_› (by omega) (by omega))).2.1;have ap:=((@Tryz.c63 (p) ((3:Int)) ‹_› (by omega) (by omega))).2.2.1;have aq:=((@Tryz.c63 (p) ((3:Int)) ‹_› (by omega) (by omega))).2.2.2; .c ((@Tryz.c63 (p) ((3:Int)) ‹_› (by omega) (by omega))).1 ?_))
 ·refine SatE.pLoop 3 (St.mk [(0,.ref
   (.inc 0) 0 0),(1,.int .i64 (↑size:Int)),(5,.tree (List.map encEdge (joinE [] (Edge.mk (1+(p.num (2-1)).fst) 2)))),(6,.int .i64 (IntKind.i64.wrap (2+1)))] [(.inc 0,.box
   (.agg [.tree (List.map encB (p.num (2-1)).snd.l),.int .i64 (↑(p.num (2-1)).snd.n:Int)]) true)]) (by kernel_rfl) (fun(s:Nat×Picks×List Edge)=>⟨[(0,.ref
   (.inc 0) 0 0),(1,.int .i64 size),(5,.tree (s.2.2.map encEdge)),(6,.int .i64 s.1)],[(.inc 0,.box (encPicks s.2.1) true)]⟩) (fun s=>2≤s.1∧s.1≤size+1∧s.2.2.length≤s.1∧s.2.1.l=p.l∧EdgesOk (s.1-1) s.2.2) (fun s=>size+1-s.1) (3,(p.num (2-1)).2,joinE [] ⟨1+(p.num (2-1)).1,2⟩) rfl ?_ ?_
  ·exact⟨by dsimp only;omega,by dsimp only;omega,by have:=joinE_len [] ⟨1+(p.num (2-1)).1,2⟩;dsimp only at this ⊢;simp only[List.length_nil]at this;omega,by dsimp only;exact p.num_l _,by have:=EdgesOk.none.step (a:=1+(p.num (2-1)).1) (by omega) (by omega);exact this⟩
  ·rintro⟨b,q,es⟩ hI again
   obtain⟨b1,b0,b2,b3,b4⟩:=hI
   simp only at b1 b2 b3 b4
   have hq:q.l.length≤100000:=by rw[b3];exact hp
   have hord:=b4.o
   have hstep:∀a:Int,1≤a→a≤((b-1:Nat):Int)→EdgesOk b (joinE es ⟨a,b⟩):=fun a a1 a2=>by
    have:=b4.step a1 a2
    rw[show b-1+1=b by omega,show((b-1:Nat):Int)+1=b by omega]at this
    exact this
   have hend:size<b→EdgesOk size es:=fun hb=>by rw[show b-1=size by omega]at b4;exact b4
   refine(.k ((↑b:Int)≤(↑size:Int)) (b≤size) (by simp only[Int.ofNat_le])
    (fun ad=>have ae:=wI64' ((↑b:Int)-(1:Int));have a7:=((@Tryz.c63 (q) ((↑b:Int)-(1:Int)) ‹_› (by omega) (by omega))).2.1;have a8:=((@Tryz.c63 (q) ((↑b:Int)-(1:Int)) ‹_› (by omega) (by omega))).2.2.1;have a9:=((@Tryz.c63 (q) ((↑b:Int)-(1:Int)) ‹_› (by omega) (by omega))).2.2.2; .C ([.ref
    (.inc 0) 0 0,.int .i64 (IntKind.i64.wrap ((↑b:Int)-1))]) ([.box (encPicks q) true]) (by simp only[ae]) rfl ((@Tryz.c63 (q) ((↑b:Int)-(1:Int)) ‹_› (by omega) (by omega))).1
    (have a4:=wI64' ((1:Int)+(q.num ((↑b:Int)-(1:Int))).fst); .C ([.tree (List.map encEdge es),.agg [.int .i64 (IntKind.i64.wrap (1+(q.num ((↑b:Int)-1)).fst)),.int .i64 (↑b:Int)]]) ([]) (by simp[encEdge,a4]) rfl (@Tryz.c175 (es) (Edge.mk ((1:Int)+(q.num ((↑b:Int)-(1:Int))).fst) (↑b:Int)) (by omega) ‹_›)
    (have a5:=wI64' ((↑b:Int)+(1:Int)); .A (St.mk [(0,.ref
    (.inc 0) 0 0),(1,.int .i64 (↑size:Int)),(5,.tree (List.map encEdge (joinE es (Edge.mk (1+(q.num ((↑b:Int)-1)).fst) (↑b:Int))))),(6,.int .i64 (IntKind.i64.wrap ((↑b:Int)+1)))] [(.inc 0,.box
    (.agg [.tree (List.map encB (q.num ((↑b:Int)-1)).snd.l),.int .i64 (↑(q.num ((↑b:Int)-1)).snd.n:Int)]) true)]) (by simp[encPicks,a5]) (again ((b+(1:Nat),Picks.mk (q.num ((↑b:Int)-(1:Int))).2.l (q.num ((↑b:Int)-(1:Int))).2.n,joinE es (Edge.mk ((1:Int)+(q.num ((↑b:Int)-(1:Int))).fst) (↑b:Int)))) ⟨(by dsimp only;omega),⟨(by dsimp only;omega),⟨(by dsimp only;(clear again_f again;(refine Nat.le_trans (joinE_len _ _) ?_;omega))),⟨(by dsimp only;simp only[Picks.num_l,Picks.tag_l, *];done),(by dsimp only;(clear again_f again;(exact hstep _ (by omega) (by omega))))⟩⟩⟩⟩ (by dsimp only;omega)))))
    (fun ad=>have ar:=((@Tryz.c63 (q) ((3:Int)) ‹_› (by omega) (by omega))).2.1;have au:=((@Tryz.c63 (q) ((3:Int)) ‹_› (by omega) (by omega))).2.2.1;have av:=((@Tryz.c63 (q) ((3:Int)) ‹_› (by omega) (by omega))).2.2.2; .c ((@Tryz.c63 (q) ((3:Int)) ‹_› (by omega) (by omega))).1
    (SatE.pJoinE (L:=loopD X.cfg (113:FuncId) Proofs.Tryz.f113 1 7) (St.mk [(0,.ref
    (.inc 0) 0 0),(1,.int .i64 (↑size:Int)),(5,.tree (List.map encEdge es)),(7,.int .i64 (q.num 3).fst)] [(.inc 0,.box
    (.agg [.tree (List.map encB (q.num 3).snd.l),.int .i64 (↑(q.num 3).snd.n:Int)]) true)]) (by kernel_rfl) rfl rfl (again_f ((q.num (3:Int)).snd) (by simp only[Picks.num_l,Picks.tag_l, *];done) (es) (by omega) (by(clear again_f again;(exact hend (by omega)))) ((q.num (3:Int)).fst) (by omega)))))
 ·refine SatE.pUnroll 7 (St.mk [(0,.ref (.inc 0) 0 0),(1,.int .i64 (↑size:Int)),(5,.sref (.head 5 0) 0 0),(7,.int .i64 (p.num 3).fst)] [(.inc 0,.box
   (.agg [.tree (List.map encB (p.num 3).snd.l),.int .i64 (↑(p.num 3).snd.n:Int)]) true),(.head 5 0,.row 2 [] true true)]) (by kernel_rfl) ?_
  refine(.i (0<(p.num 3).fst) (fun a3=> .it a3 (.it a3 (.k (2<(↑size:Int)) (2<size) (by simp only[ciLt]) (fun af=>False.elim (by omega))
   (fun af=> .r ([],Picks.mk (p.num 3).2.l (p.num 3).2.n) ⟨(by dsimp only;(clear again_f;trivial)),⟨(by dsimp only;(clear again_f;trivial)),(by dsimp only;(clear again_f;(rw[show size=1 by omega];exact EdgesOk.none)))⟩⟩))))
   (fun a3=> .iF a3 (.iF a3 (.F
   (.r ([],Picks.mk (p.num 3).2.l (p.num 3).2.n) ⟨(by dsimp only;(clear again_f;trivial)),⟨(by dsimp only;(clear again_f;trivial)),(by dsimp only;(clear again_f;(rw[show size=1 by omega];exact EdgesOk.none)))⟩⟩)))))
end Go.Ab.Tryz
