/- Package cardamomref11: what is taken, as plain Lean. -/
import Derived.Test.YtmhceknpmokahaaGreatDoorRef11d
import Derived.Test.YtmhceknpmokahaaGreatDoorRef1f
namespace Go.Ab.Tryz
open Go
set_option maxRecDepth 100000
set_option maxHeartbeats 4000000
structure Small (r:Repl):Prop where
 h1:1≤r.ID
 h2:r.ID≤r.Views.length
 hl:r.Views.length≤1000
 s0:0≤r.Size
 s1:r.Size≤100
 hh:r.Held.length≤100
 hv:∀v∈r.Held,v.Attrs.length≤100000∧v.Tag.length≤100000
 hw:∀w∈r.Views,w.Seen.length≤100∧w.Filter.length≤100000∧w.Epochs.length≤100000
theorem c170 (r:Repl) (g:Gossip) (h1:1≤r.ID) (h2:r.ID≤r.Views.length) (hl:r.Views.length≤1000) (s0:0≤r.Size) (s1:r.Size≤100) (hh:r.Held.length≤100)
  (hv:∀v∈r.Held,v.Attrs.length≤100000∧v.Tag.length≤100000) (hw:∀w∈r.Views,w.Seen.length≤100∧w.Filter.length≤100000∧w.Epochs.length≤100000)
  (hr:0≤(ownOf r.ID r.Views).Rev) (hr2:(ownOf r.ID r.Views).Rev≤1000000000000) (g1:g.Views.length≤100000) (g2:g.Batch.length≤100000) (gw:∀v∈g.Views,v.Filter.length≤100000∧v.Seen.length≤100000∧v.Epochs.length≤100000) (gv:∀v∈g.Batch,v.Attrs.length≤100000∧v.Tag.length≤100000∧v.Body.length≤100000):X.call 170 [encRepl r,encGossip g] [] ⟨.tuple [encRepl (r.take parse g).1,.int .i64 (r.take parse g).2],[],[]⟩:=by
 have hme:ownOf r.ID ((mergeV r.Views g.Views).set (r.ID-1).toNat (ownOf r.ID r.Views))=ownOf r.ID r.Views:=own_set _ h1 (by rw[mergeV_len];exact h2)
 have hml:=mergeV_len g.Views r.Views
 have hom:ownOf r.ID r.Views∈r.Views:=by
  unfold ownOf;rw[if_pos ⟨h1,h2⟩,List.getD,List.getElem?_eq_getElem (by omega)];exact List.getElem_mem _
 have hos:=hw _ hom
 have p1:=parse_ok (ownOf r.ID r.Views).Filter
 have p2:=parse_short (ownOf r.ID r.Views).Filter
 have hmw:∀w∈(mergeV r.Views g.Views).set (r.ID-1).toNat (ownOf r.ID r.Views),w.Epochs.length≤100000∧w.Filter.length≤100000∧w.Seen.length≤100000:=fun w h=>by
  rcases List.mem_or_eq_of_mem_set h with h|rfl
  ·rcases mergeV_mem h with h|h
   ·have:=hw w h;omega
   ·have:=gw w h;omega
  ·omega
 have f1:(r.merged g).flt parse=(parse (ownOf r.ID r.Views).Filter).1:=by unfold Repl.flt;exact congrArg (fun w:View=>(parse w.Filter).1) hme
 have fo:((r.merged g).flt parse).ok:=by rw[f1];exact p1
 have fs:((r.merged g).flt parse).short:=by rw[f1];exact p2
 have hsw:∀me1:View,me1.Seen.length≤1000→me1.Filter.length≤100000→∀w∈((mergeV r.Views g.Views).set (r.ID-1).toNat (ownOf r.ID r.Views)).set (r.ID-1).toNat me1,w.Seen.length≤100000∧w.Filter.length≤100000:=fun me1 h3 h4 w h=>by
  rcases List.mem_or_eq_of_mem_set h with h|rfl
  ·have:=hmw w h;omega
  ·omega
 refine spec_of ok Go.Proofs.Tryz.func170 ok170 ?_
 have again_l:∀me0:View,g.may parse r.Size=true→g.To=r.ID→me0=(r.merged g).meOf (r.merged g).own→me0.Seen.length≤100→me0.Epochs.length≤100000→me0.Filter.length≤100000→0≤me0.Rev→me0.Rev≤1000000000000→
   Sat X 170 (loopD X.cfg 170 Go.Proofs.Tryz.f170 0 13 ⟨[(3,.ref (.head 3 0) 0 0),(4,.ref (.head 4 0) 0 0),(6,.ref (.head 6 0) 0 0),(7,.ref (.head 7 0) 0 0),(8,.ref (.head 8 0) 0 0),(10,.ref (.head 10 0) 0 0),(11,.int .i64 0)],[(.head 3 0,.box (encGossip g) true),(.head 4 0,.box (.agg [.int .i64 0,.int .i64 0,.int .i64 0,.int .i64 0,.int .i64 0,.nils,.nils]) true),(.head 6 0,.box (encView (ownOf r.ID r.Views)) true),(.head 7 0,.box (encRepl (r.merged g)) true),(.head 8 0,.box (encView me0) true),(.head 10 0,.box (encFlt ((r.merged g).flt parse)) true)]⟩) (· =⟨.tuple [encRepl (r.take parse g).1,.int .i64 (r.take parse g).2],[],[]⟩):=by
  intro me0 m1 m2 m3 m4 m5 m6 m7 m8
  have gf:=Gossip.may_fit m1
  have gbl:=gf.bl
  refine Sat.pLoop 13 (St.mk [(3,.ref (.head 3 0) 0 0),(4,.ref (.head 4 0) 0 0),(6,.ref (.head 6 0) 0 0),(7,.ref (.head 7 0) 0 0),(8,.ref (.head 8 0) 0 0),(10,.ref
   (.head 10 0) 0 0),(11,.int .i64 0)] [(.head 3 0,.box (encGossip g) true),(.head 4 0,.box (.agg [.int .i64 0,.int .i64 0,.int .i64 0,.int .i64 0,.int .i64 0,.nils,.nils]) true),
   (.head 6 0,.box (encView (ownOf r.ID r.Views)) true),(.head 7 0,.box (encRepl (r.merged g)) true),(.head 8 0,.box (encView me0) true),
   (.head 10 0,.box (encFlt (Repl.flt parse (r.merged g))) true)]) (by kernel_rfl) (fun(p:Nat×Int×List Version×List Head)=>⟨[(3,.ref (.head 3 0) 0 0),(4,.ref (.head 4 0) 0 0),(6,.ref
   (.head 6 0) 0 0),(7,.ref (.head 7 0) 0 0),(8,.ref (.head 8 0) 0 0),(10,.ref (.head 10 0) 0 0),(11,.int .i64 p.1)],[(.head 3 0,.box (encGossip g) true),(.head 4 0,.box
   (.agg [.int .i64 0,.int .i64 0,.int .i64 0,.int .i64 0,.int .i64 0,.nils,.nils]) true),(.head 6 0,.box (encView (ownOf r.ID r.Views)) true),
   (.head 7 0,.box (encRepl ⟨r.ID,r.Size,p.2.1,r.N,r.Quota,p.2.2.1,(mergeV r.Views g.Views).set (r.ID-1).toNat (ownOf r.ID r.Views)⟩) true),
   (.head 8 0,.box (encView ⟨me0.R,me0.Rev,me0.Filter,p.2.2.2,me0.Epochs⟩) true),
   (.head 10 0,.box (encFlt ((r.merged g).flt parse)) true)]⟩) (fun p=>p.1≤g.Batch.length∧(g.Batch.take p.1).foldl (Repl.come ((r.merged g).flt parse)) (r.merged g,me0)=(⟨r.ID,r.Size,p.2.1,r.N,r.Quota,p.2.2.1,(mergeV r.Views g.Views).set (r.ID-1).toNat (ownOf r.ID r.Views)⟩,⟨me0.R,me0.Rev,me0.Filter,p.2.2.2,me0.Epochs⟩)∧p.2.2.1.length≤100+p.1∧p.2.2.2.length≤100+p.1∧(∀v∈p.2.2.1,v.Attrs.length≤100000∧v.Tag.length≤100000)) (fun p=>g.Batch.length-p.1) (0,r.L,r.Held,me0.Seen) rfl ?_ ?_
  ·exact⟨by simp,rfl,by simpa using hh,by simpa using m4,hv⟩
  ·rintro⟨k,L,H,S⟩ hI again
   obtain⟨i1,i2,i3,i4,i5⟩:=hI
   simp only at i1 i2 i3 i4 i5
   refine(.kl encVersion g.Batch k (fun a5=> .T (.em encVersion g.Batch k ‹_›
    (fun a0 a4=>have ah:=(gv a0 (List.mem_of_getElem? a4)).1;have ai:=(gv a0 (List.mem_of_getElem? a4)).2.1;have aj:=(gv a0 (List.mem_of_getElem? a4)).2.2; .c (@Tryz.c29 (S) (a0.Item) (by omega))
    (.c (@Tryz.c28 (a0.S) (headAt S a0.Item)) (.i (a0.S.cmp (headAt S a0.Item)≤0) (fun a6=>have a7:=wI64' ((↑k:Int)+(1:Int)); .A (St.mk [(3,.ref (.head 3 0) 0 0),(4,.ref
    (.head 4 0) 0 0),(6,.ref (.head 6 0) 0 0),(7,.ref (.head 7 0) 0 0),(8,.ref (.head 8 0) 0 0),(10,.ref
    (.head 10 0) 0 0),(11,.int .i64 (IntKind.i64.wrap ((↑k:Int)+1)))] [(.head 3 0,.box (encGossip g) true),(.head 4 0,.box
    (.agg [.int .i64 0,.int .i64 0,.int .i64 0,.int .i64 0,.int .i64 0,.nils,.nils]) true),(.head 6 0,.box (encView (ownOf r.ID r.Views)) true),(.head 7 0,.box
    (.agg [.int .i64 r.ID,.int .i64 r.Size,.int .i64 (if a0.S.L>L then a0.S.L else L),.int .i64 r.N,.int .i64 r.Quota,.tree (List.map encVersion H),.tree (List.map encView ((mergeV r.Views g.Views).set (r.ID-1).toNat (ownOf r.ID r.Views)))]) true),
    (.head 8 0,.box (.agg [.int .i64 me0.R,.int .i64 me0.Rev,.str me0.Filter,.tree (List.map encHead S),.tree (List.map encI me0.Epochs)]) true),
    (.head 10 0,.box (encFlt (Repl.flt parse (r.merged g))) true)]) (by simp[encFlt,encView,encRepl,encGossip,a7]) (again ((k+(1:Nat),if a0.S.L>L then a0.S.L else L,H,S)) ⟨(by dsimp only;omega),⟨(by dsimp only;(clear again;(rw[come_succ ‹_›,i2];exact come_no ‹_›))),⟨(by dsimp only;omega),⟨(by dsimp only;omega),(by dsimp only;omega)⟩⟩⟩⟩ (by dsimp only;omega)))
    (fun a6=> .c (@Tryz.c32 (a0) ‹_› ‹_› (Repl.flt parse (r.merged g)) ‹_› ‹_›) (.n (Flt.lets a0 (Repl.flt parse (r.merged g))) (fun a1=> .t a1 (.t a1 (.t a1 (.t a1 (.t a1 (.t a1
    (.t a1 (.t a1 (.T (.c (@Tryz.c114 (H) (a0) (by omega)) (.c (@Tryz.c149 (S) (Head.mk a0.Item a0.S) (by omega)) (have a8:=wI64' ((↑k:Int)+(1:Int)); .A (St.mk [(3,.ref
    (.head 3 0) 0 0),(4,.ref (.head 4 0) 0 0),(6,.ref (.head 6 0) 0 0),(7,.ref (.head 7 0) 0 0),(8,.ref (.head 8 0) 0 0),(10,.ref
    (.head 10 0) 0 0),(11,.int .i64 (IntKind.i64.wrap ((↑k:Int)+1)))] [(.head 3 0,.box (encGossip g) true),(.head 4 0,.box
    (.agg [.int .i64 0,.int .i64 0,.int .i64 0,.int .i64 0,.int .i64 0,.nils,.nils]) true),(.head 6 0,.box (encView (ownOf r.ID r.Views)) true),(.head 7 0,.box
    (.agg [.int .i64 r.ID,.int .i64 r.Size,.int .i64 (if a0.S.L>L then a0.S.L else L),.int .i64 r.N,.int .i64 r.Quota,.tree (List.map encVersion (putV H a0)),.tree (List.map encView ((mergeV r.Views g.Views).set (r.ID-1).toNat (ownOf r.ID r.Views)))]) true),
    (.head 8 0,.box (.agg [.int .i64 me0.R,.int .i64 me0.Rev,.str me0.Filter,.tree (List.map encHead (putHead S (Head.mk a0.Item a0.S))),.tree (List.map encI me0.Epochs)]) true),
    (.head 10 0,.box (encFlt (Repl.flt parse (r.merged g))) true)]) (by simp[encFlt,encView,encRepl,encGossip,a8]) (again ((k+(1:Nat),if a0.S.L>L then a0.S.L else L,putV H a0,putHead S (Head.mk a0.Item a0.S))) ⟨(by dsimp only;omega),⟨(by dsimp only;(clear again;(rw[come_succ ‹_›,i2];exact come_lets ‹_› ‹_›))),⟨(by dsimp only;(clear again;(refine Nat.le_trans (putV_len _ _) ?_;omega))),⟨(by dsimp only;(clear again;(refine Nat.le_trans (putHead_len _ _) ?_;omega))),(by dsimp only;(clear again;(intro w hw;rcases putV_mem hw with h|rfl;exact i5 w h;exact⟨by omega,by omega⟩)))⟩⟩⟩⟩ (by dsimp only;omega))))))))))))))
    (fun a1=> .f a1 (.f a1 (.f a1 (.f a1 (.f a1 (.f a1
    (.c (@Tryz.c98 (Repl.mk r.ID r.Size (if a0.S.L>L then a0.S.L else L) r.N r.Quota H ((mergeV r.Views g.Views).set (r.ID-(1:Int)).toNat (ownOf r.ID r.Views))) (Repl.flt parse (r.merged g)) (a0.Item) ‹_› ‹_› (by dsimp only;omega) (by dsimp only;assumption))
    (.f a1 (.f a1
    (.i ((↑((Repl.mk r.ID r.Size (if a0.S.L>L then a0.S.L else L) r.N r.Quota H ((mergeV r.Views g.Views).set (r.ID-1).toNat (ownOf r.ID r.Views))).custody (Repl.flt parse (r.merged g)) a0.Item):Int)<r.Quota)
    (fun a9=> .c (@Tryz.c114 (H) (a0) (by omega)) (.c (@Tryz.c149 (S) (Head.mk a0.Item a0.S) (by omega)) (have aa:=wI64' ((↑k:Int)+(1:Int)); .A (St.mk [(3,.ref
    (.head 3 0) 0 0),(4,.ref (.head 4 0) 0 0),(6,.ref (.head 6 0) 0 0),(7,.ref (.head 7 0) 0 0),(8,.ref (.head 8 0) 0 0),(10,.ref
    (.head 10 0) 0 0),(11,.int .i64 (IntKind.i64.wrap ((↑k:Int)+1)))] [(.head 3 0,.box (encGossip g) true),(.head 4 0,.box
    (.agg [.int .i64 0,.int .i64 0,.int .i64 0,.int .i64 0,.int .i64 0,.nils,.nils]) true),(.head 6 0,.box (encView (ownOf r.ID r.Views)) true),(.head 7 0,.box
    (.agg [.int .i64 r.ID,.int .i64 r.Size,.int .i64 (if a0.S.L>L then a0.S.L else L),.int .i64 r.N,.int .i64 r.Quota,.tree (List.map encVersion (putV H a0)),.tree (List.map encView ((mergeV r.Views g.Views).set (r.ID-1).toNat (ownOf r.ID r.Views)))]) true),
    (.head 8 0,.box (.agg [.int .i64 me0.R,.int .i64 me0.Rev,.str me0.Filter,.tree (List.map encHead (putHead S (Head.mk a0.Item a0.S))),.tree (List.map encI me0.Epochs)]) true),
    (.head 10 0,.box (encFlt (Repl.flt parse (r.merged g))) true)]) (by simp[encFlt,encView,encRepl,encGossip,aa]) (again ((k+(1:Nat),if a0.S.L>L then a0.S.L else L,putV H a0,putHead S (Head.mk a0.Item a0.S))) ⟨(by dsimp only;omega),⟨(by dsimp only;(clear again;(rw[come_succ ‹_›,i2];exact come_room ‹_› ‹_›))),⟨(by dsimp only;(clear again;(refine Nat.le_trans (putV_len _ _) ?_;omega))),⟨(by dsimp only;(clear again;(refine Nat.le_trans (putHead_len _ _) ?_;omega))),(by dsimp only;(clear again;(intro w hw;rcases putV_mem hw with h|rfl;exact i5 w h;exact⟨by omega,by omega⟩)))⟩⟩⟩⟩ (by dsimp only;omega)))))
    (fun a9=>have ab:=wI64' ((↑k:Int)+(1:Int)); .A (St.mk [(3,.ref (.head 3 0) 0 0),(4,.ref (.head 4 0) 0 0),(6,.ref (.head 6 0) 0 0),(7,.ref (.head 7 0) 0 0),(8,.ref
    (.head 8 0) 0 0),(10,.ref (.head 10 0) 0 0),(11,.int .i64 (IntKind.i64.wrap ((↑k:Int)+1)))] [(.head 3 0,.box (encGossip g) true),(.head 4 0,.box
    (.agg [.int .i64 0,.int .i64 0,.int .i64 0,.int .i64 0,.int .i64 0,.nils,.nils]) true),(.head 6 0,.box (encView (ownOf r.ID r.Views)) true),(.head 7 0,.box
    (.agg [.int .i64 r.ID,.int .i64 r.Size,.int .i64 (if a0.S.L>L then a0.S.L else L),.int .i64 r.N,.int .i64 r.Quota,.tree (List.map encVersion H),.tree (List.map encView ((mergeV r.Views g.Views).set (r.ID-1).toNat (ownOf r.ID r.Views)))]) true),
    (.head 8 0,.box (.agg [.int .i64 me0.R,.int .i64 me0.Rev,.str me0.Filter,.tree (List.map encHead S),.tree (List.map encI me0.Epochs)]) true),
    (.head 10 0,.box (encFlt (Repl.flt parse (r.merged g))) true)]) (by simp[encFlt,encView,encRepl,encGossip,ab]) (again ((k+(1:Nat),if a0.S.L>L then a0.S.L else L,H,S)) ⟨(by dsimp only;omega),⟨(by dsimp only;(clear again;(rw[come_succ ‹_›,i2];exact come_full ‹_› ‹_› ‹_›))),⟨(by dsimp only;omega),⟨(by dsimp only;omega),(by dsimp only;omega)⟩⟩⟩⟩ (by dsimp only;omega))))))))))))))))))))
    (fun a5=> .c (@Tryz.c37 (S) ((ownOf r.ID r.Views).Seen) (by omega)) (.j (S=(ownOf r.ID r.Views).Seen) (fun a2=> .iu a2 (.iu a2 (.iu a2 (.iu a2 (.iu a2 (.iu a2 (.T
    (have ac:=wI64' (me0.Rev+(1:Int)); .C ([.agg [.int .i64 r.ID,.int .i64 r.Size,.int .i64 L,.int .i64 r.N,.int .i64 r.Quota,.tree (List.map encVersion H),.tree (List.map encView ((mergeV r.Views g.Views).set (r.ID-1).toNat (ownOf r.ID r.Views)))],.agg [.int .i64 me0.R,.int .i64 (IntKind.i64.wrap (me0.Rev+1)),.str me0.Filter,.tree (List.map encHead S),.tree (List.map encI me0.Epochs)]]) ([]) (by simp[encView,encRepl,ac]) rfl (@Tryz.c150 (Repl.mk r.ID r.Size L r.N r.Quota H ((mergeV r.Views g.Views).set (r.ID-(1:Int)).toNat (ownOf r.ID r.Views))) (View.mk me0.R (me0.Rev+(1:Int)) me0.Filter S me0.Epochs) (by dsimp only;assumption) (by dsimp only;(clear again;(simp;omega))) (by dsimp only;(clear again;(simp;omega))))
    (.c (@Tryz.c24 (Repl.mk r.ID r.Size L r.N r.Quota H (((mergeV r.Views g.Views).set (r.ID-(1:Int)).toNat (ownOf r.ID r.Views)).set (r.ID-(1:Int)).toNat (View.mk me0.R (me0.Rev+(1:Int)) me0.Filter S me0.Epochs))) (by dsimp only;assumption) (by dsimp only;assumption) (by dsimp only;(clear again;(simp;omega))) (by dsimp only;(clear again;(exact hsw _ (by dsimp only;omega) (by dsimp only;omega)))) (by dsimp only;(clear again;(rw[own_set _ h1 (by simp;omega)];dsimp only;omega))) (by dsimp only;omega) (by dsimp only;assumption))
    (.q (Res.mk (AV.tuple [encRepl (Repl.sweep parse (Repl.mk r.ID r.Size L r.N r.Quota H (((mergeV r.Views g.Views).set (r.ID-1).toNat (ownOf r.ID r.Views)).set (r.ID-1).toNat (View.mk me0.R (me0.Rev+1) me0.Filter S me0.Epochs)))),.int .i64 0]) [] []) ?_))))))))))
    (fun a2=> .iv a2 (.iv a2 (.iv a2 (.iv a2 (.c (@Tryz.c38 (me0.Epochs) ((ownOf r.ID r.Views).Epochs) ‹_›) (.iv a2 (.iv a2 (.j (me0.Epochs=(ownOf r.ID r.Views).Epochs)
    (fun ad=>have ae:=wI64' (me0.Rev+(1:Int)); .C ([.agg [.int .i64 r.ID,.int .i64 r.Size,.int .i64 L,.int .i64 r.N,.int .i64 r.Quota,.tree (List.map encVersion H),.tree (List.map encView ((mergeV r.Views g.Views).set (r.ID-1).toNat (ownOf r.ID r.Views)))],.agg [.int .i64 me0.R,.int .i64 (IntKind.i64.wrap (me0.Rev+1)),.str me0.Filter,.tree (List.map encHead S),.tree (List.map encI me0.Epochs)]]) ([]) (by simp[encView,encRepl,ae]) rfl (@Tryz.c150 (Repl.mk r.ID r.Size L r.N r.Quota H ((mergeV r.Views g.Views).set (r.ID-(1:Int)).toNat (ownOf r.ID r.Views))) (View.mk me0.R (me0.Rev+(1:Int)) me0.Filter S me0.Epochs) (by dsimp only;assumption) (by dsimp only;(clear again;(simp;omega))) (by dsimp only;(clear again;(simp;omega))))
    (.c (@Tryz.c24 (Repl.mk r.ID r.Size L r.N r.Quota H (((mergeV r.Views g.Views).set (r.ID-(1:Int)).toNat (ownOf r.ID r.Views)).set (r.ID-(1:Int)).toNat (View.mk me0.R (me0.Rev+(1:Int)) me0.Filter S me0.Epochs))) (by dsimp only;assumption) (by dsimp only;assumption) (by dsimp only;(clear again;(simp;omega))) (by dsimp only;(clear again;(exact hsw _ (by dsimp only;omega) (by dsimp only;omega)))) (by dsimp only;(clear again;(rw[own_set _ h1 (by simp;omega)];dsimp only;omega))) (by dsimp only;omega) (by dsimp only;assumption))
    (.q (Res.mk (AV.tuple [encRepl (Repl.sweep parse (Repl.mk r.ID r.Size L r.N r.Quota H (((mergeV r.Views g.Views).set (r.ID-1).toNat (ownOf r.ID r.Views)).set (r.ID-1).toNat (View.mk me0.R (me0.Rev+1) me0.Filter S me0.Epochs)))),.int .i64 0]) [] []) ?_)))
    (fun ad=> .c (@Tryz.c150 (Repl.mk r.ID r.Size L r.N r.Quota H ((mergeV r.Views g.Views).set (r.ID-(1:Int)).toNat (ownOf r.ID r.Views))) (View.mk me0.R me0.Rev me0.Filter S me0.Epochs) (by dsimp only;assumption) (by dsimp only;(clear again;(simp;omega))) (by dsimp only;(clear again;(simp;omega))))
    (.c (@Tryz.c24 (Repl.mk r.ID r.Size L r.N r.Quota H (((mergeV r.Views g.Views).set (r.ID-(1:Int)).toNat (ownOf r.ID r.Views)).set (r.ID-(1:Int)).toNat (View.mk me0.R me0.Rev me0.Filter S me0.Epochs))) (by dsimp only;assumption) (by dsimp only;assumption) (by dsimp only;(clear again;(simp;omega))) (by dsimp only;(clear again;(exact hsw _ (by dsimp only;omega) (by dsimp only;omega)))) (by dsimp only;(clear again;(rw[own_set _ h1 (by simp;omega)];dsimp only;omega))) (by dsimp only;omega) (by dsimp only;assumption))
    (.q (Res.mk (AV.tuple [encRepl (Repl.sweep parse (Repl.mk r.ID r.Size L r.N r.Quota H (((mergeV r.Views g.Views).set (r.ID-1).toNat (ownOf r.ID r.Views)).set (r.ID-1).toNat (View.mk me0.R me0.Rev me0.Filter S me0.Epochs)))),.int .i64 0]) [] []) ?_))))))))))))))
   ·rw[List.take_of_length_le (by omega)]at i2
    have ht:r.takeIn parse g=Repl.sweep parse ⟨r.ID,r.Size,L,r.N,r.Quota,H,((mergeV r.Views g.Views).set (r.ID-1).toNat (ownOf r.ID r.Views)).set (r.ID-1).toNat ⟨me0.R,me0.Rev+1,me0.Filter,S,me0.Epochs⟩⟩:=by
     unfold Repl.takeIn
     simp only[←m3,i2]
     rw[if_neg (by intro h;first|exact absurd h.1 (by assumption)|exact absurd h.2 (by assumption))]
    rw[take_ok m1 m2,ht]
    all_goals simp[encRepl, *]
   ·rw[List.take_of_length_le (by omega)]at i2
    have ht:r.takeIn parse g=Repl.sweep parse ⟨r.ID,r.Size,L,r.N,r.Quota,H,((mergeV r.Views g.Views).set (r.ID-1).toNat (ownOf r.ID r.Views)).set (r.ID-1).toNat ⟨me0.R,me0.Rev+1,me0.Filter,S,me0.Epochs⟩⟩:=by
     unfold Repl.takeIn
     simp only[←m3,i2]
     rw[if_neg (by intro h;first|exact absurd h.1 (by assumption)|exact absurd h.2 (by assumption))]
    rw[take_ok m1 m2,ht]
    all_goals simp[encRepl, *]
   ·rw[List.take_of_length_le (by omega)]at i2
    have ht:r.takeIn parse g=Repl.sweep parse ⟨r.ID,r.Size,L,r.N,r.Quota,H,((mergeV r.Views g.Views).set (r.ID-1).toNat (ownOf r.ID r.Views)).set (r.ID-1).toNat ⟨me0.R,me0.Rev,me0.Filter,S,me0.Epochs⟩⟩:=by
     unfold Repl.takeIn
     simp only[←m3,i2]
     rw[if_pos ⟨by assumption,by assumption⟩]
    rw[take_ok m1 m2,ht]
    all_goals simp[encRepl, *]
 refine(.c (@Tryz.c211 (g) (r.Size) ‹_› ‹_› ‹_› ‹_› ‹_›) (.m (Gossip.may parse r.Size g) (fun a3=> .y a3 (.y a3 (.y a3 (.y a3 (.y a3 (.T
  (.q (Res.mk (AV.tuple [.agg [.int .i64 r.ID,.int .i64 r.Size,.int .i64 r.L,.int .i64 r.N,.int .i64 r.Quota,.tree (List.map encVersion r.Held),.tree (List.map encView r.Views)],.int .i64 1]) [] []) (by(clear again_l;(rw[show r.take parse g=(r,1)from if_neg (by simp[*])];rfl))))))))))
  (fun a3=> .x a3 (.x a3 (.x a3 (.x a3 (.x a3 (.j (g.To=r.ID)
  (fun af=> .q (Res.mk (AV.tuple [.agg [.int .i64 r.ID,.int .i64 r.Size,.int .i64 r.L,.int .i64 r.N,.int .i64 r.Quota,.tree (List.map encVersion r.Held),.tree (List.map encView r.Views)],.int .i64 1]) [] []) (by(clear again_l;(rw[show r.take parse g=(r,1)from if_neg (by simp[*])];rfl))))
  (fun af=> .c (@Tryz.c30 (r) ‹_›) (.c (@Tryz.c110 (r.Views) (g.Views) ‹_› ‹_›)
  (.c (@Tryz.c150 (Repl.mk r.ID r.Size r.L r.N r.Quota r.Held (mergeV r.Views g.Views)) (ownOf r.ID r.Views) (by dsimp only;assumption) (by dsimp only;omega) (by dsimp only;omega))
  (.c (@Tryz.c30 (Repl.mk r.ID r.Size r.L r.N r.Quota r.Held ((mergeV r.Views g.Views).set (r.ID-(1:Int)).toNat (ownOf r.ID r.Views))) (by dsimp only;(clear again_l;(simp;omega))))
  (.C ([.tree (List.map encView ((mergeV r.Views g.Views).set (r.ID-1).toNat (ownOf r.ID r.Views))),.int .i64 r.Size]) ([]) (by(clear again_l;(simp[encI,encWord,encRd,encBr,encB_fun,encPicks,encAttr,encHead,encStamp,encVersion,encView,encRepl,encGossip,encGram,encEdge,encStep,encMesh,List.map_append,List.map_cons,List.map_nil];omega))) rfl (@Tryz.c219 ((mergeV r.Views g.Views).set (r.ID-(1:Int)).toNat (ownOf r.ID r.Views)) (r.Size.toNat) (by(clear again_l;(simp;omega))) (by omega) (by(clear again_l;(exact fun w h=>(hmw w h).1))))
  (.c (@Tryz.c38 (epochsOf ((mergeV r.Views g.Views).set (r.ID-(1:Int)).toNat (ownOf r.ID r.Views)) r.Size.toNat) ((ownOf r.ID ((mergeV r.Views g.Views).set (r.ID-(1:Int)).toNat (ownOf r.ID r.Views))).Epochs) (by(clear again_l;(rw[epochsOf_len];omega))))
  (.j (epochsOf ((mergeV r.Views g.Views).set (r.ID-1).toNat (ownOf r.ID r.Views)) r.Size.toNat=(ownOf r.ID ((mergeV r.Views g.Views).set (r.ID-1).toNat (ownOf r.ID r.Views))).Epochs)
  (fun ag=> .c (@Tryz.c40 (r.Held) (by omega))
  (.c (@Tryz.c26 (Repl.mk r.ID r.Size r.L r.N r.Quota r.Held ((mergeV r.Views g.Views).set (r.ID-(1:Int)).toNat (ownOf r.ID r.Views))) (by dsimp only;(clear again_l;(simp;omega))) (by dsimp only;(clear again_l;(rw[hme];omega))))
  (Sat.pJoinE (L:=loopD X.cfg (170:FuncId) Proofs.Tryz.f170 0 13) (St.mk [(3,.ref (.head 3 0) 0 0),(4,.ref (.head 4 0) 0 0),(6,.ref (.head 6 0) 0 0),(7,.ref (.head 7 0) 0 0),(8,.ref
  (.head 8 0) 0 0),(10,.ref (.head 10 0) 0 0),(11,.int .i64 0)] [(.head 3 0,.box
  (.agg [.int .i64 g.From,.int .i64 g.To,.tree (List.map encView g.Views),.tree (List.map encVersion g.Batch)]) true),(.head 4 0,.box
  (.agg [.int .i64 0,.int .i64 0,.int .i64 0,.int .i64 0,.int .i64 0,.nils,.nils]) true),(.head 6 0,.box
  (.agg [.int .i64 (ownOf r.ID r.Views).R,.int .i64 (ownOf r.ID r.Views).Rev,.str (ownOf r.ID r.Views).Filter,.tree (List.map encHead (ownOf r.ID r.Views).Seen),.tree (List.map encI (ownOf r.ID r.Views).Epochs)]) true),
  (.head 7 0,.box
  (.agg [.int .i64 r.ID,.int .i64 r.Size,.int .i64 r.L,.int .i64 r.N,.int .i64 r.Quota,.tree (List.map encVersion r.Held),.tree (List.map encView ((mergeV r.Views g.Views).set (r.ID-1).toNat (ownOf r.ID r.Views)))]) true),
  (.head 8 0,.box
  (.agg [.int .i64 (ownOf r.ID ((mergeV r.Views g.Views).set (r.ID-1).toNat (ownOf r.ID r.Views))).R,.int .i64 (ownOf r.ID ((mergeV r.Views g.Views).set (r.ID-1).toNat (ownOf r.ID r.Views))).Rev,.str (ownOf r.ID ((mergeV r.Views g.Views).set (r.ID-1).toNat (ownOf r.ID r.Views))).Filter,.tree (List.map encHead (headsOf r.Held)),.tree (List.map encI (epochsOf ((mergeV r.Views g.Views).set (r.ID-1).toNat (ownOf r.ID r.Views)) r.Size.toNat))]) true),
  (.head 10 0,.box
  (.agg [.int .i64 (Repl.flt parse (Repl.mk r.ID r.Size r.L r.N r.Quota r.Held ((mergeV r.Views g.Views).set (r.ID-1).toNat (ownOf r.ID r.Views)))).op,.int .i64 (Repl.flt parse (Repl.mk r.ID r.Size r.L r.N r.Quota r.Held ((mergeV r.Views g.Views).set (r.ID-1).toNat (ownOf r.ID r.Views)))).key,.int .i64 (Repl.flt parse (Repl.mk r.ID r.Size r.L r.N r.Quota r.Held ((mergeV r.Views g.Views).set (r.ID-1).toNat (ownOf r.ID r.Views)))).lo,.int .i64 (Repl.flt parse (Repl.mk r.ID r.Size r.L r.N r.Quota r.Held ((mergeV r.Views g.Views).set (r.ID-1).toNat (ownOf r.ID r.Views)))).hi,.str (Repl.flt parse (Repl.mk r.ID r.Size r.L r.N r.Quota r.Held ((mergeV r.Views g.Views).set (r.ID-1).toNat (ownOf r.ID r.Views)))).tag,.tree (encArgs (Repl.flt parse (Repl.mk r.ID r.Size r.L r.N r.Quota r.Held ((mergeV r.Views g.Views).set (r.ID-1).toNat (ownOf r.ID r.Views)))))]) true)]) (by kernel_rfl) rfl rfl (again_l (View.mk (ownOf r.ID ((mergeV r.Views g.Views).set (r.ID-(1:Int)).toNat (ownOf r.ID r.Views))).R (ownOf r.ID ((mergeV r.Views g.Views).set (r.ID-(1:Int)).toNat (ownOf r.ID r.Views))).Rev (ownOf r.ID ((mergeV r.Views g.Views).set (r.ID-(1:Int)).toNat (ownOf r.ID r.Views))).Filter (headsOf r.Held) (epochsOf ((mergeV r.Views g.Views).set (r.ID-(1:Int)).toNat (ownOf r.ID r.Views)) r.Size.toNat)) ‹_› ‹_› (by(clear again_l;(exact(if_neg ‹_›).symm))) (by(clear again_l;(simp[headsOf];omega))) (by(clear again_l;(rw[epochsOf_len];omega))) (by(clear again_l;(show(ownOf r.ID ((mergeV r.Views g.Views).set (r.ID-1).toNat (ownOf r.ID r.Views))).Filter.length≤100000;rw[hme];omega))) (by(clear again_l;(rw[hme];omega))) (by(clear again_l;(rw[hme];omega)))))))
  (fun ag=> .c (@Tryz.c26 (Repl.mk r.ID r.Size r.L r.N r.Quota r.Held ((mergeV r.Views g.Views).set (r.ID-(1:Int)).toNat (ownOf r.ID r.Views))) (by dsimp only;(clear again_l;(simp;omega))) (by dsimp only;(clear again_l;(rw[hme];omega))))
  (Sat.pJoinE (L:=loopD X.cfg (170:FuncId) Proofs.Tryz.f170 0 13) (St.mk [(3,.ref (.head 3 0) 0 0),(4,.ref (.head 4 0) 0 0),(6,.ref (.head 6 0) 0 0),(7,.ref (.head 7 0) 0 0),(8,.ref
  (.head 8 0) 0 0),(10,.ref (.head 10 0) 0 0),(11,.int .i64 0)] [(.head 3 0,.box
  (.agg [.int .i64 g.From,.int .i64 g.To,.tree (List.map encView g.Views),.tree (List.map encVersion g.Batch)]) true),(.head 4 0,.box
  (.agg [.int .i64 0,.int .i64 0,.int .i64 0,.int .i64 0,.int .i64 0,.nils,.nils]) true),(.head 6 0,.box
  (.agg [.int .i64 (ownOf r.ID r.Views).R,.int .i64 (ownOf r.ID r.Views).Rev,.str (ownOf r.ID r.Views).Filter,.tree (List.map encHead (ownOf r.ID r.Views).Seen),.tree (List.map encI (ownOf r.ID r.Views).Epochs)]) true),
  (.head 7 0,.box
  (.agg [.int .i64 r.ID,.int .i64 r.Size,.int .i64 r.L,.int .i64 r.N,.int .i64 r.Quota,.tree (List.map encVersion r.Held),.tree (List.map encView ((mergeV r.Views g.Views).set (r.ID-1).toNat (ownOf r.ID r.Views)))]) true),
  (.head 8 0,.box
  (.agg [.int .i64 (ownOf r.ID ((mergeV r.Views g.Views).set (r.ID-1).toNat (ownOf r.ID r.Views))).R,.int .i64 (ownOf r.ID ((mergeV r.Views g.Views).set (r.ID-1).toNat (ownOf r.ID r.Views))).Rev,.str (ownOf r.ID ((mergeV r.Views g.Views).set (r.ID-1).toNat (ownOf r.ID r.Views))).Filter,.tree (List.map encHead (ownOf r.ID ((mergeV r.Views g.Views).set (r.ID-1).toNat (ownOf r.ID r.Views))).Seen),.tree (List.map encI (ownOf r.ID ((mergeV r.Views g.Views).set (r.ID-1).toNat (ownOf r.ID r.Views))).Epochs)]) true),
  (.head 10 0,.box
  (.agg [.int .i64 (Repl.flt parse (Repl.mk r.ID r.Size r.L r.N r.Quota r.Held ((mergeV r.Views g.Views).set (r.ID-1).toNat (ownOf r.ID r.Views)))).op,.int .i64 (Repl.flt parse (Repl.mk r.ID r.Size r.L r.N r.Quota r.Held ((mergeV r.Views g.Views).set (r.ID-1).toNat (ownOf r.ID r.Views)))).key,.int .i64 (Repl.flt parse (Repl.mk r.ID r.Size r.L r.N r.Quota r.Held ((mergeV r.Views g.Views).set (r.ID-1).toNat (ownOf r.ID r.Views)))).lo,.int .i64 (Repl.flt parse (Repl.mk r.ID r.Size r.L r.N r.Quota r.Held ((mergeV r.Views g.Views).set (r.ID-1).toNat (ownOf r.ID r.Views)))).hi,.str (Repl.flt parse (Repl.mk r.ID r.Size r.L r.N r.Quota r.Held ((mergeV r.Views g.Views).set (r.ID-1).toNat (ownOf r.ID r.Views)))).tag,.tree (encArgs (Repl.flt parse (Repl.mk r.ID r.Size r.L r.N r.Quota r.Held ((mergeV r.Views g.Views).set (r.ID-1).toNat (ownOf r.ID r.Views)))))]) true)]) (by kernel_rfl) rfl rfl (again_l (ownOf r.ID ((mergeV r.Views g.Views).set (r.ID-(1:Int)).toNat (ownOf r.ID r.Views))) ‹_› ‹_› (by(clear again_l;(exact(if_pos ‹_›).symm))) (by(clear again_l;(rw[hme];omega))) (by(clear again_l;(rw[hme];omega))) (by(clear again_l;(rw[hme];omega))) (by(clear again_l;(rw[hme];omega))) (by(clear again_l;(rw[hme];omega)))))))))))))))))))))
end Go.Ab.Tryz
