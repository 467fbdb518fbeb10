/- Package cardamomref25: steps that write; Tell; Round. -/
import Derived.Test.YtmhceknpmokahaaGreatDoorRef25a
import Derived.Test.YtmhceknpmokahaaGreatDoorRef11f
import Derived.Test.YtmhceknpmokahaaGreatDoorRef16e
import Derived.Test.YtmhceknpmokahaaGreatDoorRef20
import Derived.Test.YtmhceknpmokahaaGreatDoorAbEdge
import Derived.Test.YtmhceknpmokahaaGreatDoorRef11e
namespace Go.Ab.Tryz
open Go
set_option maxRecDepth 100000
set_option maxHeartbeats 4000000
theorem parse_Short:Prs.Short parse:=fun s h=>parse_len s h
theorem comes_sub (l:List Gram) (i:Int):(netComes l i).1.Sublist l:=by
 unfold netComes;split
 ·exact List.eraseIdx_sublist ..
 ·exact List.Sublist.refl _
theorem send_ok {l:List Gram} {g:Gram} (hl:l.length≤20) (h:∀x∈l,x.B.length≤5000) (hg:g.B.length≤5000):(netSend l g).length≤20∧∀x∈netSend l g,x.B.length≤5000:=by
 unfold netSend;split
 ·exact⟨hl,h⟩
 ·refine⟨by simp;omega,fun x hx=> ?_⟩
  rcases List.mem_append.1 hx with hx|hx
  ·exact h x hx
  ·rw[List.mem_singleton.1 hx];exact hg
theorem twice_ok {l:List Gram} {i:Int} (hl:l.length≤20) (h:∀x∈l,x.B.length≤5000):(netTwice l i).length≤20∧∀x∈netTwice l i,x.B.length≤5000:=by
 unfold netTwice;split
 ·exact send_ok hl h (h _ (List.getElem_mem _))
 ·exact⟨hl,h⟩
theorem turned_ok {l:List Gram} {i to:Int} (hl:l.length≤20) (h:∀x∈l,x.B.length≤5000):(netTurned l i to).1.length≤20∧∀x∈(netTurned l i to).1,x.B.length≤5000:=by
 unfold netTurned;split
 ·rename_i hb
  dsimp only
  split
  ·exact⟨hl,h⟩
  ·split
   ·exact⟨hl,h⟩
   ·refine⟨by simpa using hl,fun x hx=> ?_⟩
    rcases List.mem_or_eq_of_mem_set hx with hx|rfl
    ·exact h x hx
    ·have:=h _ (List.getElem_mem (l:=l) (n:=i.toNat) (by omega))
     simpa[turnB]using this
 ·exact⟨hl,h⟩
theorem do_lost (m:Mesh) (s:Step) (size k:Nat) (B:Int) (h:m.Ok size B k) (hB2:B≤1000000000) (hk:k≤9000) (hto:s.To<1000000) (hkind:6≤s.Kind):∃p:Mesh×Int,X.call 108 [encMesh m,encStep s] [] ⟨.tuple [encMesh p.1,.int .i64 p.2],[],[]⟩∧p.1.Ok size (B+1) (k+1):=by
 have hrl:=h.rl
 have hsz:=h.sz
 have hs5:=h.s5
 have hfl:=h.fl
 have hil:=h.il
 have hel:=h.el
 have hb0:=h.b0
 have hb1:=h.b1
 have hfb:=h.fb
 have hc:=comes_sub m.Fly s.I
 have h0:=h.mono (B':=B+1) (k':=k+1) (by omega) (by omega)
 have f1:=h0.fly (l:=(netComes m.Fly s.I).1) (by have:=hc.length_le;omega) (fun g hg=>hfb g (hc.subset hg)) (fun g hg=>h0.fi g (hc.subset hg))
 have f2:=h0.fly (l:=netTwice m.Fly s.I) (twice_ok hfl hfb).1 (twice_ok hfl hfb).2 (twice_in h0.fi)
 have f3:=h0.fly (l:=(netTurned m.Fly s.I s.To).1) (turned_ok hfl hfb).1 (turned_ok hfl hfb).2 (turned_in h0.fi)
 refine spec_ex ok Go.Proofs.Tryz.func108 ok108 ?_
 refine(.i (s.Kind=1) (fun a0=>False.elim (by omega)) (fun a0=> .i (s.Kind=2) (fun a1=>False.elim (by omega)) (fun a1=> .i (s.Kind=3) (fun a2=>False.elim (by omega))
  (fun a2=> .i (s.Kind=4) (fun a3=>False.elim (by omega)) (fun a3=> .i (s.Kind=5) (fun a4=>False.elim (by omega)) (fun a4=> .i (s.Kind=6)
  (fun a5=> .c (@Tryz.c172 (m.Fly) (s.I) ‹_›) (.m ((netComes m.Fly s.I).snd.snd) (fun a6=> .r (Mesh.mk m.Size m.Batch m.Edges m.Repls m.Fly m.Issued,3) (by dsimp only;trivial))
  (fun a6=> .r (Mesh.mk m.Size m.Batch m.Edges m.Repls (netComes m.Fly s.I).fst m.Issued,0) (by dsimp only;trivial)))) (fun a5=> .i (s.Kind=7) (fun a7=> .c (@Tryz.c173 (m.Fly) (s.I) ‹_›)
  (.j (0≤s.I∧s.I<(↑m.Fly.length:Int)∧m.Fly.length<20) (fun a8=> .r (Mesh.mk m.Size m.Batch m.Edges m.Repls m.Fly m.Issued,3) (by dsimp only;trivial))
  (fun a8=> .r (Mesh.mk m.Size m.Batch m.Edges m.Repls (netTwice m.Fly s.I) m.Issued,0) (by dsimp only;trivial)))) (fun a7=> .i (s.Kind=8)
  (fun a9=> .c (@Tryz.c174 (m.Fly) (s.I) (s.To) ‹_› ‹_›) (.m ((netTurned m.Fly s.I s.To).snd) (fun aa=> .r (Mesh.mk m.Size m.Batch m.Edges m.Repls m.Fly m.Issued,3) (by dsimp only;trivial))
  (fun aa=> .r (Mesh.mk m.Size m.Batch m.Edges m.Repls (netTurned m.Fly s.I s.To).fst m.Issued,0) (by dsimp only;trivial))))
  (fun a9=> .r (Mesh.mk m.Size m.Batch m.Edges m.Repls m.Fly m.Issued,1) (by dsimp only;trivial))))))))))
end Go.Ab.Tryz
namespace Go.Ab.Tryz
open Go
set_option maxRecDepth 100000
set_option maxHeartbeats 4000000
theorem beside_in {l:List Edge} {a b:Int} {size:Nat} (he:∀e∈l,1≤e.A∧e.A<e.B∧e.B≤size) (h:(l.any fun e=>decide (e=⟨a,b⟩)||decide (e=⟨b,a⟩))=true):1≤a∧a≤size∧1≤b∧b≤size:=by
 obtain⟨e,hm,hc⟩:=List.any_eq_true.1 h
 have:=he e hm
 simp only[Bool.or_eq_true,decide_eq_true_eq]at hc
 rcases hc with rfl|rfl<;>simp only at this<;>omega
theorem do_tell (m:Mesh) (s:Step) (size k:Nat) (B:Int) (h:m.Ok size B k) (hB2:B≤1000000000) (hk:k≤9000) (hkind:s.Kind=4):∃p:Mesh×Int,X.call 108 [encMesh m,encStep s] [] ⟨.tuple [encMesh p.1,.int .i64 p.2],[],[]⟩∧p.1.Ok size (B+1) (k+1):=by
 have hsz:=h.sz
 have hs5:=h.s5
 have hfl:=h.fl
 have hel:=h.el
 have h0:=h.mono (B':=B+1) (k':=k+1) (by omega) (by omega)
 by_cases hbe:(m.Edges.any fun e=>decide (e=⟨s.R,s.To⟩)||decide (e=⟨s.To,s.R⟩))=true
 ·obtain⟨h1,h2,h3,h4⟩:=beside_in h.ed hbe
  have hlt:(s.R-1).toNat<m.Repls.length:=by have:=h.rl;omega
  obtain⟨r,hr⟩:∃r,m.Repls[(s.R-1).toNat]? =some r:=⟨m.Repls[(s.R-1).toNat],by simp⟩
  have hrl:=h.rl
  have ho:=(h.rs _ _ hr).1
  have sm:=ho.sm (by omega)
  obtain⟨q1,q2,q3,q4,q5,q6,q7,q8,q9,q10,q11,q12,q13,q14,q15,q16,q17,q18⟩:=sm
  obtain⟨⟨g,ok1⟩,cTo,t1,t2,t3,t4,t5⟩:=c41 r s.To m.Batch q3 q17 q10 (by omega) q18
  simp only at cTo t1 t2 t3 t4 t5
  obtain⟨⟨b,ok2⟩,cPut,p1,p2,p3,p4⟩:=c166 g m.Size (by omega) (by omega) (by omega) (by omega) (fun v hv=>by have:=q9 v (t2 v hv);have:=q10 v (t2 v hv);omega) (fun v hv=>by have:=q7 v (t4 v hv);have:=q8 v (t4 v hv);omega)
  simp only at cPut p1 p2 p3 p4
  have hri:=h.ri _ (List.mem_of_getElem? hr)
  have hin:Gram.In size (B+1) m.lore ⟨s.R,s.To,b,false⟩:=by
   cases ok2 with
   |false=>exact .inl (p4 rfl)
   |true=>exact .inr ⟨g,by have:=p2 rfl;rw[hsz]at this;exact Gossip.may_puts this,⟨fun w hw=>hri.seen w (t2 w hw),fun v hv=>hri.held v (t4 v hv),fun w hw=>hri.fil w (t2 w hw),fun w hw=>(ho.vs w (t2 w hw)).mono (by omega),fun w hw=>hri.vc w (t2 w hw)⟩,.inl ⟨rfl,p3 rfl⟩⟩
  have f1:=h0.fly (l:=netSend m.Fly ⟨s.R,s.To,b,false⟩) (send_ok hfl h.fb (by simp only;omega)).1 (send_ok hfl h.fb (by simp only;omega)).2 (send_in h0.fi hin)
  clear hin hri p2 p3 p4
  clear t1 t2 t3 t4 t5 q1 q2 q3 q4 q5 q6 q7 q8 q9 q10 q11 q12 q13 q14 q15 q16 q17 q18 ho
  by_cases hfull:m.Fly.length<20
  ·refine⟨({ m with Fly:=netSend m.Fly ⟨s.R,s.To,b,false⟩ },0), ?_,f1⟩
   clear f1 h0 h
   refine spec_of ok Go.Proofs.Tryz.func108 ok108 ?_
   refine(.i (s.Kind=1) (fun a1=>False.elim (by omega)) (fun a1=> .i (s.Kind=2) (fun a2=>False.elim (by omega)) (fun a2=> .i (s.Kind=3) (fun a3=>False.elim (by omega))
    (fun a3=> .it hkind (.c (@Tryz.c165 (m.Edges) (s.R) (s.To) (by omega))
    (Sat.pNodeF (!m.Edges.any fun(e:Edge)=>decide (e=Edge.mk s.R s.To)||decide (e=Edge.mk s.To s.R)) (by kernel_rfl) (by rw[hbe];rfl)
    (have a0:=wI64' (s.R-(1:Int)); .k (0≤IntKind.i64.wrap (s.R-1)) (0≤s.R-1) (by simp only[a0])
    (fun a4=> .eH encRepl m.Repls ((IntKind.i64.wrap (s.R-1)).toNat) (by simp only[a0]) hr (.b (.c (@cTo) (.c (@cPut) (.z encB b 1 (fun _=>rfl) (.B (List.map encB b) b rfl
    (.c (@Tryz.c167 (m.Fly) (Gram.mk s.R s.To b Bool.false) ‹_›) (.iv hfull .r)))))) (.c (@cTo) (.c (@cPut) (.z encB b 1 (fun _=>rfl) (.B (List.map encB b) b rfl
    (.c (@Tryz.c167 (m.Fly) (Gram.mk s.R s.To b Bool.false) ‹_›) (.iv hfull .r)))))))) (fun a4=>False.elim (by omega)))))))))
  ·refine⟨(m,6), ?_,h0⟩
   clear f1 h0 h
   refine spec_of ok Go.Proofs.Tryz.func108 ok108 ?_
   refine(.i (s.Kind=1) (fun a1=>False.elim (by omega)) (fun a1=> .i (s.Kind=2) (fun a2=>False.elim (by omega)) (fun a2=> .i (s.Kind=3) (fun a3=>False.elim (by omega))
    (fun a3=> .it hkind (.c (@Tryz.c165 (m.Edges) (s.R) (s.To) (by omega))
    (Sat.pNodeF (!m.Edges.any fun(e:Edge)=>decide (e=Edge.mk s.R s.To)||decide (e=Edge.mk s.To s.R)) (by kernel_rfl) (by rw[hbe];rfl)
    (have a0:=wI64' (s.R-(1:Int)); .k (0≤IntKind.i64.wrap (s.R-1)) (0≤s.R-1) (by simp only[a0])
    (fun a4=> .eH encRepl m.Repls ((IntKind.i64.wrap (s.R-1)).toNat) (by simp only[a0]) hr (.b (.c (@cTo) (.c (@cPut) (.z encB b 1 (fun _=>rfl) (.B (List.map encB b) b rfl
    (.c (@Tryz.c167 (m.Fly) (Gram.mk s.R s.To b Bool.false) ‹_›) (.iu hfull .r)))))) (.c (@cTo) (.c (@cPut) (.z encB b 1 (fun _=>rfl) (.B (List.map encB b) b rfl
    (.c (@Tryz.c167 (m.Fly) (Gram.mk s.R s.To b Bool.false) ‹_›) (.iu hfull .r)))))))) (fun a4=>False.elim (by omega)))))))))
 ·refine⟨(m,1), ?_,h0⟩
  refine spec_of ok Go.Proofs.Tryz.func108 ok108 ?_
  refine(.i (s.Kind=1) (fun a5=>False.elim (by omega)) (fun a5=> .i (s.Kind=2) (fun a6=>False.elim (by omega)) (fun a6=> .i (s.Kind=3) (fun a7=>False.elim (by omega))
   (fun a7=> .it hkind (.c (@Tryz.c165 (m.Edges) (s.R) (s.To) (by omega)) (.m (m.Edges.any fun(e:Edge)=>decide (e=Edge.mk s.R s.To)||decide (e=Edge.mk s.To s.R)) (fun a8=> .r)
   (fun a8=>False.elim (by(contradiction)))))))))
end Go.Ab.Tryz
namespace Go.Ab.Tryz
open Go
set_option maxRecDepth 100000
set_option maxHeartbeats 4000000
theorem do_comes (m:Mesh) (s:Step) (size k:Nat) (B:Int) (h:m.Ok size B k) (hB2:B≤1000000000) (hk:k≤9000) (hkind:s.Kind=5):∃p:Mesh×Int,X.call 108 [encMesh m,encStep s] [] ⟨.tuple [encMesh p.1,.int .i64 p.2],[],[]⟩∧p.1.Ok size (B+1) (k+1):=by
 have hsz:=h.sz
 have hs5:=h.s5
 have hfl:=h.fl
 have hrl:=h.rl
 have h0:=h.mono (B':=B+1) (k':=k+1) (by omega) (by omega)
 have hc:=comes_sub m.Fly s.I
 have f1:=h0.fly (l:=(netComes m.Fly s.I).1) (by have:=hc.length_le;omega) (fun g hg=>h.fb g (hc.subset hg)) (fun g hg=>h0.fi g (hc.subset hg))
 have hg:(netComes m.Fly s.I).2.2=true→(netComes m.Fly s.I).2.1.B.length≤5000:=by
  unfold netComes
  split
  ·rename_i hi
   intro _
   have hlt:s.I.toNat<m.Fly.length:=by omega
   have:=h.fb _ (List.getElem_mem hlt)
   simp only[List.getD,List.getElem?_eq_getElem hlt,Option.getD_some]
   exact this
  ·intro hh;cases hh
 have hgi:(netComes m.Fly s.I).2.2=true→(netComes m.Fly s.I).2.1.In size B m.lore:=by
  unfold netComes
  split
  ·rename_i hi
   intro _
   have hlt:s.I.toNat<m.Fly.length:=by omega
   have:=h.fi _ (List.getElem_mem hlt)
   simp only[List.getD,List.getElem?_eq_getElem hlt,Option.getD_some]
   exact this
  ·intro hh;cases hh
 have cN:=c168 m.Fly s.I hfl
 generalize netComes m.Fly s.I=nc at*
 obtain⟨l,gram,ok1⟩:=nc
 simp only at hc f1 hg hgi cN
 cases ok1 with
 |false=>
  refine⟨(m,3), ?_,h0⟩
  clear hgi f1 h0 h hc
  refine spec_of ok Go.Proofs.Tryz.func108 ok108 ?_
  refine(.i (s.Kind=1) (fun a2=>False.elim (by omega)) (fun a2=> .i (s.Kind=2) (fun a3=>False.elim (by omega)) (fun a3=> .i (s.Kind=3) (fun a4=>False.elim (by omega))
   (fun a4=> .i (s.Kind=4) (fun a0=>False.elim (by omega)) (fun a0=> .it hkind (.c (@cN) (.T .r)))))))
 |true=>
  have hgl:=hg rfl
  obtain⟨⟨g,ok2⟩,cT,t1,t2⟩:=c169 gram.B size hs5 hgl
  simp only at cT t1 t2
  rw[←hsz]at cT
  cases ok2 with
  |false=>
   refine⟨({ m with Fly:=l },2), ?_,f1⟩
   clear hgi t2 f1 h0 h hc t1
   refine spec_of ok Go.Proofs.Tryz.func108 ok108 ?_
   refine(.i (s.Kind=1) (fun a0=>False.elim (by omega)) (fun a0=> .i (s.Kind=2) (fun a5=>False.elim (by omega)) (fun a5=> .i (s.Kind=3) (fun a6=>False.elim (by omega))
    (fun a6=> .i (s.Kind=4) (fun a7=>False.elim (by omega)) (fun a7=> .it hkind (.c (@cN) (.F
    (have a8:List.take gram.B.length (List.map (fun(c:UInt8)=>AV.int IntKind.u8 (↑c.toNat:Int)) gram.B)=List.map (fun(c:UInt8)=>AV.int IntKind.u8 (↑c.toNat:Int)) gram.B:=List.take_of_length_le (by simp); .C ([.tree (List.take gram.B.length (List.map (fun(c:UInt8)=>AV.int .u8 (↑c.toNat:Int)) gram.B)),.int .i64 m.Size]) ([]) (by simp[encB_fun,a8]) rfl (@cT)
    (.T .r)))))))))
  |true=>
   have hgm:=t1 rfl
   have gf:=Gossip.may_fit hgm
   have hgo:=(hgi rfl).told (Gossip.may_puts hgm) (t2 rfl)
   have g1:=gf.t0
   have g2:=gf.t1
   have hlt:(g.To-1).toNat<m.Repls.length:=by omega
   obtain⟨r,hr⟩:∃r,m.Repls[(g.To-1).toNat]? =some r:=⟨m.Repls[(g.To-1).toNat],by simp⟩
   have ho:=(h.rs _ _ hr).1
   obtain⟨q1,q2,q3,q4,q5,q6,q7,q8,q9,q10,q11,q12,q13,q14,q15,q16,q17,q18⟩:=ho.sm (by omega)
   have hbl:=gf.bl
   have hvl:=gf.vl
   have cF:=c170 r g q1 q2 q3 q4 q5 q6 q7 q9 q11 q12 (by omega) (by omega) (fun v hv=>by
    have hf:=hgo.ok v hv
    have:=hf.f;have:=hf.slen;have:=hf.elen;omega) (fun v hv=>by
    have hf:=Version.may_fit (gf.bs v hv)
    have:=hf.al;have:=hf.tl;have:=hf.bl;omega)
   have hot:=ho.take (P:=parse) (g:=g) hgo.ok
   have cW:=c171 { m with Fly:=l } (r.take parse g).1 (by rw[take_id];omega) (by rw[take_id];have:=ho.i1;show r.ID≤(m.Repls.length:Int);omega) (by show m.Repls.length≤1000;omega)
   have hid:=(h.rs _ _ hr).2
   have hr2:m.Repls[(r.ID-1).toNat]? =some r:=by rw[show(r.ID-1).toNat=(g.To-1).toNat by omega];exact hr
   have hw:(({ m with Fly:=l } :Mesh).with_ (r.take parse g).1).Ok size (B+1) (k+1):=((h.fly (l:=l) (by have:=hc.length_le;omega) (fun g hg=>h.fb g (hc.subset hg)) (fun g hg=>h.fi g (hc.subset hg))).takes parse_Good (r:=r) (g:=g) hr2 hgo).mono (by omega) (by omega)
   clear hgi t2 hgo
   refine⟨(({ m with Fly:=l } :Mesh).with_ (r.take parse g).1,(r.take parse g).2), ?_,hw⟩
   generalize r.take parse g=rt at*
   clear hw hot ho hgm gf q1 q2 q3 q4 q5 q6 q7 q8 q9 q10 q11 q12 q13 q14 q15 q16 q17 q18 f1 h0 h hc t1
   refine spec_of ok Go.Proofs.Tryz.func108 ok108 ?_
   refine(.i (s.Kind=1) (fun a9=>False.elim (by omega)) (fun a9=> .i (s.Kind=2) (fun aa=>False.elim (by omega)) (fun aa=> .i (s.Kind=3) (fun ab=>False.elim (by omega))
    (fun ab=> .i (s.Kind=4) (fun ac=>False.elim (by omega)) (fun ac=> .it hkind (.c (@cN) (.F
    (have ad:List.take gram.B.length (List.map (fun(c:UInt8)=>AV.int IntKind.u8 (↑c.toNat:Int)) gram.B)=List.map (fun(c:UInt8)=>AV.int IntKind.u8 (↑c.toNat:Int)) gram.B:=List.take_of_length_le (by simp); .C ([.tree (List.take gram.B.length (List.map (fun(c:UInt8)=>AV.int .u8 (↑c.toNat:Int)) gram.B)),.int .i64 m.Size]) ([]) (by simp[encB_fun,ad]) rfl (@cT)
    (.F (have a1:=wI64' (g.To-(1:Int)); .k (0≤IntKind.i64.wrap (g.To-1)) (0≤g.To-1) (by simp only[a1])
    (fun ae=> .eH encRepl m.Repls ((IntKind.i64.wrap (g.To-1)).toNat) (by simp only[a1]) hr (.b (.c (@cF) (.c (@cW) .r)) (.c (@cF) (.c (@cW) .r)))) (fun ae=>False.elim (by omega))))))))))))
end Go.Ab.Tryz
namespace Go.Ab.Tryz
open Go
set_option maxRecDepth 100000
set_option maxHeartbeats 4000000
theorem do_write (m:Mesh) (s:Step) (size k:Nat) (B:Int) (h:m.Ok size B k) (hB2:B≤1000000000) (hk:k≤9000) (ha:s.Attrs.length≤1000) (ht:s.Tag.length≤1000) (hb:s.Text.length≤1000) (hkind:1≤s.Kind∧s.Kind≤3) (hft:s.Kind=3→s.Text∈goodF):∃p:Mesh×Int,X.call 108 [encMesh m,encStep s] [] ⟨.tuple [encMesh p.1,.int .i64 p.2],[],[]⟩∧p.1.Ok size (B+1) (k+1):=by
 have hsz:=h.sz
 have hs5:=h.s5
 have hrl:=h.rl
 have hil:=h.il
 have h0:=h.mono (B':=B+1) (k':=k+1) (by omega) (by omega)
 by_cases hr:1≤s.R∧s.R≤size
 ·have hw:=h.write parse_Short parse_Good hr.1 hr.2 hft
  have hsm:∀r∈m.Repls,r.Sm:=fun r hr=>(h.mem hr).sm (by omega)
  have hid:∀r∈m.Repls,r.ID≤m.Repls.length:=fun r hr=>by have:=(h.mem hr).i1;omega
  have cW:=c164 m s hr.1 (by omega) (by omega) (by omega) hsm hid ha ht hb
  refine⟨((m.write parse s).1,(m.write parse s).2), ?_,hw⟩
  generalize m.write parse s=w at*
  clear hw hsm hid h0 h hft
  refine spec_of ok Go.Proofs.Tryz.func108 ok108 ?_
  refine(.i (s.Kind=1) (fun a5=> .it a5 (.i (s.R<1) (fun a0=>False.elim (by omega)) (fun a0=> .iF a0 (.iF a0 (.iF a0 (.iF a0 (.iF a0 (.i (m.Size<s.R)
   (fun a6=>False.elim (by omega)) (fun a6=> .c (@cW) .r))))))))) (fun a5=> .i (s.Kind=2) (fun a7=> .it a7 (.i (s.R<1) (fun a3=>False.elim (by omega)) (fun a3=> .iF a3
   (.iF a3 (.iF a3 (.iF a3 (.iF a3 (.i (m.Size<s.R) (fun aa=>False.elim (by omega)) (fun aa=> .c (@cW) .r))))))))) (fun a7=> .i (s.Kind=3) (fun ab=> .i (s.R<1)
   (fun a4=>False.elim (by omega)) (fun a4=> .iF a4 (.iF a4 (.iF a4 (.iF a4 (.iF a4 (.i (m.Size<s.R) (fun ac=>False.elim (by omega)) (fun ac=> .c (@cW) .r))))))))
   (fun ab=>False.elim (by omega)))))
 ·refine⟨(m,1), ?_,h0⟩
  clear h0 h hft
  refine spec_of ok Go.Proofs.Tryz.func108 ok108 ?_
  refine(.i (s.Kind=1) (fun a8=> .it a8 (.i (s.R<1) (fun a1=> .it a1 (.it a1 (.it a1 (.it a1 (.it a1 (.T .r)))))) (fun a1=> .iF a1 (.iF a1 (.iF a1 (.iF a1 (.iF a1
   (.i (m.Size<s.R) (fun ad=> .r) (fun ad=>False.elim (by omega)))))))))) (fun a8=> .i (s.Kind=2) (fun a9=> .it a9 (.i (s.R<1) (fun a2=> .it a2 (.it a2 (.it a2 (.it a2
   (.it a2 (.T .r)))))) (fun a2=> .iF a2 (.iF a2 (.iF a2 (.iF a2 (.iF a2 (.i (m.Size<s.R) (fun ae=> .r) (fun ae=>False.elim (by omega)))))))))) (fun a9=> .i (s.Kind=3)
   (fun a5=> .i (s.R<1) (fun a0=> .it a0 (.it a0 (.it a0 (.it a0 (.it a0 (.T .r)))))) (fun a0=> .iF a0 (.iF a0 (.iF a0 (.iF a0 (.iF a0 (.i (m.Size<s.R) (fun a6=> .r)
   (fun a6=>False.elim (by omega))))))))) (fun a5=>False.elim (by omega)))))
theorem do_ex (m:Mesh) (s:Step) (size k:Nat) (B:Int) (h:m.Ok size B k) (hB2:B≤1000000000) (hk:k≤9000) (ha:s.Attrs.length≤1000) (ht:s.Tag.length≤1000) (hb:s.Text.length≤1000) (hto:s.To<1000000) (h1:1≤s.Kind) (hft:s.Kind=3→s.Text∈goodF):∃p:Mesh×Int,X.call 108 [encMesh m,encStep s] [] ⟨.tuple [encMesh p.1,.int .i64 p.2],[],[]⟩∧p.1.Ok size (B+1) (k+1):=by
 rcases(by omega:s.Kind≤3∨s.Kind=4∨s.Kind=5∨6≤s.Kind)with h2|h2|h2|h2
 ·exact do_write m s size k B h hB2 hk ha ht hb ⟨h1,h2⟩ hft
 ·exact do_tell m s size k B h hB2 hk h2
 ·exact do_comes m s size k B h hB2 hk h2
 ·exact do_lost m s size k B h hB2 hk hto h2
theorem tell_ex (m:Mesh) (a b:Int) (size k:Nat) (B:Int) (h:m.Ok size B k) (hB2:B≤1000000000) (h1:1≤a) (h2:a≤size) (h3:1≤b) (h4:b≤size):∃m':Mesh,X.call 109 [encMesh m,.int .i64 a,.int .i64 b] [] ⟨encMesh m',[],[]⟩∧m'.Ok size (B+1) k∧m'.Edges=m.Edges:=by
 have hsz:=h.sz
 have hs5:=h.s5
 have hrl:=h.rl
 have h0:=h.mono (B':=B+1) (k':=k) (by omega) (by omega)
 have hla:(a-1).toNat<m.Repls.length:=by omega
 have hlb:(b-1).toNat<m.Repls.length:=by omega
 obtain⟨r,hr⟩:∃r,m.Repls[(a-1).toNat]? =some r:=⟨m.Repls[(a-1).toNat],by simp⟩
 obtain⟨q,hq⟩:∃q,m.Repls[(b-1).toNat]? =some q:=⟨m.Repls[(b-1).toNat],by simp⟩
 have ho:=(h.rs _ _ hr).1
 have hp:=(h.rs _ _ hq).1
 obtain⟨q1,q2,q3,q4,q5,q6,q7,q8,q9,q10,q11,q12,q13,q14,q15,q16,q17,q18⟩:=ho.sm (by omega)
 obtain⟨r1,r2,r3,r4,r5,r6,r7,r8,r9,r10,r11,r12,r13,r14,r15,r16,r17,r18⟩:=hp.sm (by omega)
 obtain⟨⟨g,ok1⟩,cTo,t1,t2,t3,t4,t5⟩:=c41 r b m.Batch q3 q17 q10 (by omega) q18
 simp only at cTo t1 t2 t3 t4 t5
 cases ok1 with
 |false=>
  refine⟨m, ?_,h0,rfl⟩
  clear h0 h ho hp t1 t2 t3 t4 t5 q1 q2 q3 q4 q5 q6 q7 q8 q9 q10 q11 q12 q13 q14 q15 q16 q17 q18 r1 r2 r3 r4 r5 r6 r7 r8 r9 r10 r11 r12 r13 r14 r15 r16 r17 r18
  refine spec_of ok Go.Proofs.Tryz.func109 ok109 ?_
  refine(have a6:=wI64' (a-(1:Int)); .k (0≤IntKind.i64.wrap (a-1)) (0≤a-1) (by simp only[a6])
   (fun a7=> .eH encRepl m.Repls ((IntKind.i64.wrap (a-1)).toNat) (by simp only[a6]) hr (.b (.c (@cTo) (.T .r)) (.c (@cTo) (.T .r)))) (fun a7=>False.elim (by omega)))
 |true=>
  have cF:=c170 q g r1 r2 r3 r4 r5 r6 r7 r9 r11 r12 (by omega) (by omega) (fun v hv=>by have:=q9 v (t2 v hv);have:=q10 v (t2 v hv);omega) (fun v hv=>by have:=q7 v (t4 v hv);have:=q8 v (t4 v hv);omega)
  have hot:=hp.take (P:=parse) (g:=g) (fun w hw=>ho.vs w (t2 w hw))
  have cW:=c171 m (q.take parse g).1 (by rw[take_id];omega) (by rw[take_id];have:=hp.i1;omega) (by omega)
  have hri:=h.ri _ (List.mem_of_getElem? hr)
  have hqid:=(h.rs _ _ hq).2
  have hq2:m.Repls[(q.ID-1).toNat]? =some q:=by rw[show(q.ID-1).toNat=(b-1).toNat by omega];exact hq
  have hw:(m.with_ (q.take parse g).1).Ok size (B+1) k:=h.takes parse_Good (r:=q) (g:=g) hq2 ⟨fun w hw=>hri.seen w (t2 w hw),fun v hv=>hri.held v (t4 v hv),fun w hw=>hri.fil w (t2 w hw),fun w hw=>ho.vs w (t2 w hw),fun w hw=>hri.vc w (t2 w hw)⟩
  clear hri
  by_cases he:(q.take parse g).2=0
  ·refine⟨m.with_ (q.take parse g).1, ?_,hw,rfl⟩
   generalize q.take parse g=rt at*
   clear hw hot h0 h ho hp t1 t2 t3 t4 t5 q1 q2 q3 q4 q5 q6 q7 q8 q9 q10 q11 q12 q13 q14 q15 q16 q17 q18 r1 r2 r3 r4 r5 r6 r7 r8 r9 r10 r11 r12 r13 r14 r15 r16 r17 r18
   refine spec_of ok Go.Proofs.Tryz.func109 ok109 ?_
   refine(have a0:=wI64' (a-(1:Int)); .k (0≤IntKind.i64.wrap (a-1)) (0≤a-1) (by simp only[a0])
    (fun a3=> .eH encRepl m.Repls ((IntKind.i64.wrap (a-1)).toNat) (by simp only[a0]) hr (.b (.c (@cTo) (.F
    (have a1:=wI64' (b-(1:Int)); .k (0≤IntKind.i64.wrap (b-1)) (0≤b-1) (by simp only[a1]) (fun a4=> .eH encRepl m.Repls ((IntKind.i64.wrap (b-1)).toNat) (by simp only[a1]) hq (.b
    (.c (@cF) (.iv he (.c (@cW) .r))) (.c (@cF) (.iv he (.c (@cW) .r))))) (fun a4=>False.elim (by omega))))) (.c (@cTo) (.F
    (have a2:=wI64' (b-(1:Int)); .k (0≤IntKind.i64.wrap (b-1)) (0≤b-1) (by simp only[a2]) (fun a5=> .eH encRepl m.Repls ((IntKind.i64.wrap (b-1)).toNat) (by simp only[a2]) hq (.b
    (.c (@cF) (.iv he (.c (@cW) .r))) (.c (@cF) (.iv he (.c (@cW) .r))))) (fun a5=>False.elim (by omega))))))) (fun a3=>False.elim (by omega)))
  ·refine⟨m, ?_,h0,rfl⟩
   generalize q.take parse g=rt at*
   clear hw hot h0 h ho hp t1 t2 t3 t4 t5 q1 q2 q3 q4 q5 q6 q7 q8 q9 q10 q11 q12 q13 q14 q15 q16 q17 q18 r1 r2 r3 r4 r5 r6 r7 r8 r9 r10 r11 r12 r13 r14 r15 r16 r17 r18
   refine spec_of ok Go.Proofs.Tryz.func109 ok109 ?_
   refine(have a0:=wI64' (a-(1:Int)); .k (0≤IntKind.i64.wrap (a-1)) (0≤a-1) (by simp only[a0])
    (fun a3=> .eH encRepl m.Repls ((IntKind.i64.wrap (a-1)).toNat) (by simp only[a0]) hr (.b (.c (@cTo) (.F
    (have a1:=wI64' (b-(1:Int)); .k (0≤IntKind.i64.wrap (b-1)) (0≤b-1) (by simp only[a1]) (fun a4=> .eH encRepl m.Repls ((IntKind.i64.wrap (b-1)).toNat) (by simp only[a1]) hq (.b
    (.c (@cF) (.iu he .r)) (.c (@cF) (.iu he .r)))) (fun a4=>False.elim (by omega))))) (.c (@cTo) (.F
    (have a2:=wI64' (b-(1:Int)); .k (0≤IntKind.i64.wrap (b-1)) (0≤b-1) (by simp only[a2]) (fun a5=> .eH encRepl m.Repls ((IntKind.i64.wrap (b-1)).toNat) (by simp only[a2]) hq (.b
    (.c (@cF) (.iu he .r)) (.c (@cF) (.iu he .r)))) (fun a5=>False.elim (by omega))))))) (fun a3=>False.elim (by omega)))
end Go.Ab.Tryz
