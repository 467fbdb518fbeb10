/- Package cardamomref11: views, as plain Lean. -/
import Derived.Test.YtmhceknpmokahaaGreatDoorRef4d
import Derived.Test.YtmhceknpmokahaaGreatDoorG3
namespace Go.Ab.Tryz
open Go
set_option maxRecDepth 100000
set_option maxHeartbeats 4000000
def View.fit (v:View):Prop:=v.Seen.length≤100000∧v.Epochs.length≤100000
theorem view_eq (a b:View):decide (a=b)=decide (a.R=b.R∧a.Rev=b.Rev∧a.Filter=b.Filter∧a.Seen=b.Seen∧a.Epochs=b.Epochs):=by
 congr 1;rw[View.ext_iff]
theorem c42 (a b:View) (h1:a.Seen.length≤100000) (h2:a.Epochs.length≤100000):X.call 42 [encView a,encView b] [] ⟨.bool (decide (a=b)),[],[]⟩:=by
 rw[view_eq]
 refine spec_of ok Go.Proofs.Tryz.func42 ok42 ?_
 refine(.i (a.R=b.R) (fun _h5=> .it _h5 (.it _h5 (.it _h5 (.it _h5 (.it _h5 (.i (a.Rev=b.Rev) (fun _h6=> .it _h6 (.it _h6 (.it _h6 (.it _h6 (.it _h6 (.i (a.Filter=b.Filter) (fun _h7=> .it _h7
  (.it _h7 (.it _h7 (.it _h7 (.c (@Tryz.c37 (a.Seen) (b.Seen) ‹_›) (.it _h7 (.i (a.Seen=b.Seen) (fun _h8=> .it _h8 (.it _h8 (.it _h8 (.it _h8 (.c (@Tryz.c38 (a.Epochs) (b.Epochs) ‹_›) (.it _h8
  (.q (Res.mk (.bool (decide (a.Epochs=b.Epochs))) [] []) (by simp_all)))))))) (fun _h8=> .iF _h8 (.iF _h8 (.iF _h8 (.iF _h8 (.iF _h8 (.q (Res.mk (.bool false) [] []) (by simp_all))))))))))))))
  (fun _h7=> .iF _h7 (.iF _h7 (.iF _h7 (.iF _h7 (.iF _h7 (.F (.F (.F (.F (.F (.F (.q (Res.mk (.bool false) [] []) (by simp_all))))))))))))))))))) (fun _h6=> .iF _h6 (.iF _h6 (.iF _h6 (.iF _h6 (.iF _h6
  (.F (.F (.F (.F (.F (.F (.F (.F (.F (.F (.F (.F (.q (Res.mk (.bool false) [] []) (by simp_all))))))))))))))))))))))))) (fun _h5=> .iF _h5 (.iF _h5 (.iF _h5 (.iF _h5 (.iF _h5 (.F (.F (.F (.F (.F (.F
  (.F (.F (.F (.F (.F (.F (.F (.F (.F (.F (.F (.F (.q (Res.mk (.bool false) [] []) (by simp_all))))))))))))))))))))))))))
theorem c25 (a b:List View) (hl:a.length≤100000) (h:∀v∈a,v.Seen.length≤100000∧v.Epochs.length≤100000):X.call 25 [.tree (a.map encView),.tree (b.map encView)] [] ⟨.bool (decide (a=b)),[],[]⟩:=by
 refine spec_of ok Go.Proofs.Tryz.func25 ok25 ?_
 refine(.l ((↑(List.map encView a).length:Int)=(↑(List.map encView b).length:Int)) (a.length=b.length) (by simp only[List.length_map,Int.natCast_inj]) (fun _h5=> .q (Res.mk
  (.bool false) [] []) (by(simp;intro e;subst e;simp_all))) (fun _h5=> ?_))
 refine Sat.pLoop 4 (St.mk [(0,.tree (List.map encView a)),(1,.tree (List.map encView b)),(5,.int .i64 0)] []) (by kernel_rfl) (fun(k:Nat)=>⟨[(0,.tree (a.map encView)),(1,.tree (b.map encView)),(5,.int .i64 k)],[]⟩) (fun k=>k≤a.length∧a.take k=b.take k) (fun k=>a.length-k) 0 rfl ?_ ?_
 ·simp
 ·intro k hk again
  refine(.kl encView a k (fun _h9=> .T (.em encView a k ‹_› (fun a0 a1=>have a5:=(h a0 (List.mem_of_getElem? a1)).1;have a6:=(h a0 (List.mem_of_getElem? a1)).2; .T
   (.em encView b k (by omega) (fun a2 a7=> .c (@Tryz.c42 (a0) (a2) ‹_› ‹_›) (.j (a0=a2) (fun a3=> .q (Res.mk
   (.bool false) [] []) (by(clear again;(simp;intro e;subst e;simp_all))))
   (fun a3=>have a4:=wI64' ((↑k:Int)+(1:Int)); .A (St.mk [(0,.tree (List.map encView a)),(1,.tree (List.map encView b)),(5,.int .i64 (IntKind.i64.wrap ((↑k:Int)+1)))] []) (by simp[a4]) (again (k+(1:Nat)) (by(clear again;(refine⟨by omega, ?_⟩;rw[take_succ ‹_›,take_succ ‹_›,hk.2];simp_all))) (by omega)))))))))
   (fun _h9=> .q (Res.mk (.bool true) [] []) (by(clear again;(rw[List.take_of_length_le (by omega),List.take_of_length_le (by omega)]at hk;simp_all)))))
theorem c30 (r:Repl) (hl:r.Views.length≤1000):X.call 30 [encRepl r] [] ⟨encView (ownOf r.ID r.Views),[],[]⟩:=by
 refine spec_of ok Go.Proofs.Tryz.func30 ok30 ?_
 refine(.i (r.ID<1) (fun _h3=> .it _h3 (.it _h3 (.it _h3 (.it _h3 (.it _h3 (.it _h3 (.T (.q (Res.mk
  (.agg [.int .i64 0,.int .i64 0,.str [],.tree [],.tree []]) [] []) (by(rw[show ownOf r.ID r.Views=View.zero from if_neg (by omega)];rfl)))))))))) (fun _h3=> .iF _h3 (.iF _h3 (.iF _h3 (.iF _h3
  (.iF _h3 (.iF _h3 (.k ((↑(List.map encView r.Views).length:Int)<r.ID) ((↑r.Views.length:Int)<r.ID) (by simp only[List.length_map]) (fun _h4=> .q (Res.mk
  (.agg [.int .i64 0,.int .i64 0,.str [],.tree [],.tree []]) [] []) (by(rw[show ownOf r.ID r.Views=View.zero from if_neg (by omega)];rfl)))
  (fun _h4=>have _w5:=wI64' (r.ID-(1:Int)); .k (0≤IntKind.i64.wrap (r.ID-1)) (0≤r.ID-1) (by simp only[_w5])
  (fun _h6=> .eM encView r.Views ((IntKind.i64.wrap (r.ID-1)).toNat) ((r.ID-1).toNat) (by simp only[_w5]) (by omega) (fun _x7 a0=> .q (Res.mk
  (.agg [.int .i64 _x7.R,.int .i64 _x7.Rev,.str _x7.Filter,.tree (List.map encHead _x7.Seen),.tree (List.map encI _x7.Epochs)]) [] []) (by(rw[own_at ‹_› (by omega)];rfl))))
  (fun _h6=>False.elim (by omega)))))))))))
theorem c26 (r:Repl) (hl:r.Views.length≤1000) (h:(ownOf r.ID r.Views).Filter.length≤100000):X.call 26 [encRepl r] [] ⟨encFlt (r.flt parse),[],[]⟩:=by
 refine spec_of ok Go.Proofs.Tryz.func26 ok26 ?_
 refine(.c (@Tryz.c30 (r) ‹_›) (.c (@Tryz.c31 ((ownOf r.ID r.Views).Filter) ‹_›) .r))
theorem c150 (r:Repl) (v:View) (h1:1≤r.ID) (h2:r.ID≤r.Views.length) (hl:r.Views.length≤1000):X.call 150 [encRepl r,encView v] [] ⟨encRepl (r.setOwn v),[],[]⟩:=by
 refine spec_of ok Go.Proofs.Tryz.func150 ok150 ?_
 refine(.z encView r.Views 5 (fun _=>rfl)
  (.k ((0+(List.map encView r.Views).length)*(80:Nat)≤140737488355328) ((0+r.Views.length)*(80:Nat)≤140737488355328) (by simp only[List.length_map]) (fun _h6=> .T
  (have _w7:=wI64' (r.ID-(1:Int)); .k (0≤IntKind.i64.wrap (r.ID-1)∧IntKind.i64.wrap (r.ID-1)<(↑(0+(List.map encView r.Views).length):Int)) (0≤r.ID-1∧r.ID-1<(↑(0+r.Views.length):Int)) (by simp only[List.length_map,_w7])
  (fun _h8=> .eM encView r.Views ((IntKind.i64.wrap (r.ID-1)).toNat) ((r.ID-1).toNat) (by simp only[_w7]) (by omega)
  (fun _x9 a0=>have a1:List.take ((0:Nat)+(List.map encView r.Views).length) ((List.map encView r.Views).set (r.ID-(1:Int)).toNat (encView v))=(List.map encView r.Views).set (r.ID-(1:Int)).toNat (encView v):=List.take_of_length_le (by simp); .q (Res.mk
  (.agg [.int .i64 r.ID,.int .i64 r.Size,.int .i64 r.L,.int .i64 r.N,.int .i64 r.Quota,.tree (List.map encVersion r.Held),.tree (List.take (0+(List.map encView r.Views).length) ((List.map encView r.Views).set (IntKind.i64.wrap (r.ID-1)).toNat (encView v)))]) [] []) (by(simp_all[Repl.setOwn,encRepl,List.map_set];done))))
  (fun _h8=>False.elim (by omega)))) (fun _h6=>False.elim (by omega))))
theorem c98 (r:Repl) (f:Flt) (item:Int) (hf:f.ok) (hs:f.short) (hl:r.Held.length≤1000) (hv:∀v∈r.Held,v.Attrs.length≤100000∧v.Tag.length≤100000):X.call 98 [encRepl r,encFlt f,.int .i64 item] [] ⟨.int .i64 (r.custody f item),[],[]⟩:=by
 refine spec_of ok Go.Proofs.Tryz.func98 ok98 ?_
 refine ?_
 refine Sat.pLoop 3 (St.mk [(2,.int .i64 item),(3,.ref (.head 3 0) 0 0),(4,.ref (.head 4 0) 0 0),(7,.int .i64 0),(8,.int .i64 0)] [(.head 3 0,.box (encRepl r) true),
  (.head 4 0,.box (encFlt f) true)]) (by kernel_rfl) (fun(k:Nat)=>⟨[(2,.int .i64 item),(3,.ref (.head 3 0) 0 0),(4,.ref
  (.head 4 0) 0 0),(7,.int .i64 (outs f item (r.Held.take k)).length),(8,.int .i64 k)],[(.head 3 0,.box (encRepl r) true),
  (.head 4 0,.box (encFlt f) true)]⟩) (fun k=>k≤r.Held.length) (fun k=>r.Held.length-k) 0 rfl ?_ ?_
 ·omega
 ·intro k hk again
  have hn:=outs_len f item (r.Held.take k)
  simp only[List.length_take]at hn
  refine(.kl encVersion r.Held k (fun a3=> .T (.em encVersion r.Held k ‹_›
   (fun a1 a2=>have a5:=(hv a1 (List.mem_of_getElem? a2)).1;have a6:=(hv a1 (List.mem_of_getElem? a2)).2; .j (a1.Item=item) (fun a0=> .iu a0 (.iu a0 (.iu a0
   (.iu a0 (.T (.eh encVersion a2 (.iu a0 (.iu a0 (.c (@Tryz.c32 (a1) ‹_› ‹_› (f) ‹_› ‹_›) (.iu a0 (.iu a0 (.m (Flt.lets a1 f)
   (fun a4=>have a7:=wI64' ((↑(outs f item (List.take k r.Held)).length:Int)+(1:Int));have a8:=wI64' ((↑k:Int)+(1:Int)); .A (St.mk [(2,.int .i64 item),(3,.ref
   (.head 3 0) 0 0),(4,.ref
   (.head 4 0) 0 0),(7,.int .i64 (IntKind.i64.wrap ((↑(outs f item (List.take k r.Held)).length:Int)+1))),(8,.int .i64 (IntKind.i64.wrap ((↑k:Int)+1)))] [(.head 3 0,.box (encRepl r) true),
   (.head 4 0,.box (encFlt f) true)]) (by(clear again;(rw[outs_succ ‹_›];simp[encRepl,encFlt, *];done))) (again (k+(1:Nat)) (by omega) (by omega)))
   (fun a4=>have a9:=wI64' ((↑k:Int)+(1:Int)); .A (St.mk [(2,.int .i64 item),(3,.ref (.head 3 0) 0 0),(4,.ref
   (.head 4 0) 0 0),(7,.int .i64 (↑(outs f item (List.take k r.Held)).length:Int)),(8,.int .i64 (IntKind.i64.wrap ((↑k:Int)+1)))] [(.head 3 0,.box (encRepl r) true),
   (.head 4 0,.box (encFlt f) true)]) (by(clear again;(rw[outs_succ ‹_›];simp[encRepl,encFlt, *];done))) (again (k+(1:Nat)) (by omega) (by omega))))))))))))))) (fun a0=> .iv a0 (.iv a0
   (.iv a0 (.iv a0 (.iv a0 (.iv a0 (.iv a0 (.iv a0 (.F (have aa:=wI64' ((↑k:Int)+(1:Int)); .A (St.mk [(2,.int .i64 item),(3,.ref (.head 3 0) 0 0),(4,.ref
   (.head 4 0) 0 0),(7,.int .i64 (↑(outs f item (List.take k r.Held)).length:Int)),(8,.int .i64 (IntKind.i64.wrap ((↑k:Int)+1)))] [(.head 3 0,.box (encRepl r) true),
   (.head 4 0,.box (encFlt f) true)]) (by(clear again;(rw[outs_succ ‹_›];simp[encRepl,encFlt, *];done))) (again (k+(1:Nat)) (by omega) (by omega))))))))))))))) (fun a3=> .q (Res.mk
   (.int .i64 (↑(outs f item (List.take k r.Held)).length:Int)) [] []) (by(clear again;(rw[List.take_of_length_le (by omega)];rfl)))))
theorem c110 (a b:List View) (ha:a.length≤1000) (hb:b.length≤100000):X.call 110 [.tree (a.map encView),.tree (b.map encView)] [] ⟨.tree ((mergeV a b).map encView),[],[]⟩:=by
 refine spec_of ok Go.Proofs.Tryz.func110 ok110 ?_
 refine(.z encView a 5 (fun _=>rfl) (.k ((0+(List.map encView a).length)*(80:Nat)≤140737488355328) ((0+a.length)*(80:Nat)≤140737488355328) (by simp only[List.length_map])
  (fun _h5=> .T ?_) (fun _h5=>False.elim (by omega))))
 refine Sat.pLoop 3 (St.mk [(1,.tree (List.map encView b)),(5,.sref
  (.head 5 0) 0 (0+(List.map encView a).length)),(6,.int .i64 0)] [(.head 5 0,.row 5 (List.map encView a) true true)]) (by kernel_rfl) (fun(p:Nat×List View)=>⟨[(1,.tree (b.map encView)),(5,.sref
  (.head 5 0) 0 p.2.length),(6,.int .i64 p.1)],[(.head 5 0,.row 5 (p.2.map encView) true true)]⟩) (fun p=>p.1≤b.length∧p.2=mergeV a (b.take p.1)∧p.2.length≤1000) (fun p=>b.length-p.1) (0,a) (by simp) ?_ ?_
 ·exact⟨by simp,rfl,ha⟩
 ·rintro⟨k,out⟩ hI again
  obtain⟨h1,h2,h3⟩:=hI
  simp only at h1 h2 h3
  refine(.kl encView b k (fun a4=> ?_) (fun a4=>have a8:List.take out.length (List.map encView out)=List.map encView out:=List.take_of_length_le (by simp); .q (Res.mk
   (.tree (List.take out.length (List.map encView out))) [] []) (by(clear again;(rw[List.take_of_length_le (by omega)]at h2;simp[←h2,List.take_of_length_le];done)))))
  obtain⟨v,hv⟩:∃v,b[k]? =some v:=⟨b[k],by simp⟩
  refine Sat.pLoop 6 (St.mk [(1,.tree (List.map encView b)),(5,.sref
   (.head 5 0) 0 out.length),(6,.int .i64 (↑k:Int)),(7,.int .i64 0)] [(.head 5 0,.row 5 (List.map encView out) true true)]) (by kernel_rfl) (fun(p:Nat)=>⟨[(1,.tree (b.map encView)),(5,.sref
   (.head 5 0) 0 (turnTo (takeView v) out p).length),(6,.int .i64 k),(7,.int .i64 p)],[(.head 5 0,.row 5 ((turnTo (takeView v) out p).map encView) true true)]⟩) (fun p=>p≤out.length) (fun p=>out.length-p) 0 rfl ?_ ?_
  ·omega
  ·intro j hj again2
   have hu:=turnTo_len (takeView v) out j
   have hu1:=turnTo_len (takeView v) out (j+1)
   have hat:=turnTo_at (takeView v) out j
   refine(.k ((↑j:Int)<(↑(turnTo (takeView v) out j).length:Int)) (j<(turnTo (takeView v) out j).length) (by simp only[Int.ofNat_lt])
    (fun a5=> .k (0≤(↑j:Int)∧(↑j:Int)<(↑(turnTo (takeView v) out j).length:Int)) (0≤j∧j<(turnTo (takeView v) out j).length) (by simp only[Int.ofNat_lt,ciLe])
    (fun a1=> .em encView (turnTo (takeView v) out j) j ‹_› (fun a2 a3=> .T (.eh encView hv (.i (a2.R=v.R) (fun a0=> .it a0 (.it a0 (.T (.eh encView hv (.it a0 (.it a0 (.it a0
    (.it a0 (.it a0 (.et (0≤(↑j:Int)∧(↑j:Int)<(↑(turnTo (takeView v) out j).length:Int)) (by simp only[Int.ofNat_lt,ciLe]) a1 (.it a0 (.it a0 (.eh encView a3 (.it a0 (.it a0
    (.i (a2.Rev<v.Rev) (fun a6=> .T (.eh encView hv (.et (0≤(↑j:Int)∧(↑j:Int)<(↑(turnTo (takeView v) out j).length:Int)) (by simp only[Int.ofNat_lt,ciLe]) a1 (.eh encView a3
    (have a9:=wI64' ((↑j:Int)+(1:Int)); .A (St.mk [(1,.tree (List.map encView b)),(5,.sref
    (.head 5 0) 0 (turnTo (takeView v) out j).length),(6,.int .i64 (↑k:Int)),(7,.int .i64 (IntKind.i64.wrap ((↑j:Int)+1)))] [(.head 5 0,.row 5 ((List.map encView (turnTo (takeView v) out j)).set (↑j:Int).toNat (encView v)) true true)]) (by(clear again again2;(rw[←turnTo_set (by rw[←hat];assumption)];simp[takeView, *];done))) (again2 (j+(1:Nat)) (by omega) (by omega)))))))
    (fun a6=>have aa:=wI64' ((↑j:Int)+(1:Int)); .A (St.mk [(1,.tree (List.map encView b)),(5,.sref
    (.head 5 0) 0 (turnTo (takeView v) out j).length),(6,.int .i64 (↑k:Int)),(7,.int .i64 (IntKind.i64.wrap ((↑j:Int)+1)))] [(.head 5 0,.row 5 (List.map encView (turnTo (takeView v) out j)) true true)]) (by(clear again again2;(rw[turnTo_keep (by rw[←hat];assumption) (by simp[takeView];omega)];simp[*];done))) (again2 (j+(1:Nat)) (by omega) (by omega)))))))))))))))))))
    (fun a0=> .iF a0 (.iF a0 (.iF a0 (.iF a0 (.iF a0 (.iF a0 (.iF a0 (.iF a0 (.iF a0 (.iF a0 (.iF a0 (.F
    (have ab:=wI64' ((↑j:Int)+(1:Int)); .A (St.mk [(1,.tree (List.map encView b)),(5,.sref
    (.head 5 0) 0 (turnTo (takeView v) out j).length),(6,.int .i64 (↑k:Int)),(7,.int .i64 (IntKind.i64.wrap ((↑j:Int)+1)))] [(.head 5 0,.row 5 (List.map encView (turnTo (takeView v) out j)) true true)]) (by(clear again again2;(rw[turnTo_keep (by rw[←hat];assumption) (by simp[takeView];omega)];simp[*];done))) (again2 (j+(1:Nat)) (by omega) (by omega)))))))))))))))))))
    (fun a1=>False.elim (by omega))) (fun a5=>have a7:=wI64' ((↑k:Int)+(1:Int)); .A (St.mk [(1,.tree (List.map encView b)),(5,.sref
    (.head 5 0) 0 (turnTo (takeView v) out j).length),(6,.int .i64 (IntKind.i64.wrap ((↑k:Int)+1)))] [(.head 5 0,.row 5 (List.map encView (turnTo (takeView v) out j)) true true)]) (by simp[a7]) (again ((k+(1:Nat),turnTo (takeView v) out j)) ⟨(by dsimp only;omega),⟨(by dsimp only;(clear again again2;(rw[mergeV_succ hv,←h2,turnTo_all _ _ _ (by omega)]))),(by dsimp only;omega)⟩⟩ (by dsimp only;omega))))
theorem c219 (l:List View) (size:Nat) (hl:l.length≤100000) (hs:size≤100) (he:∀v∈l,v.Epochs.length≤100000):X.call 219 [.tree (l.map encView),.int .i64 size] [] ⟨.tree ((epochsOf l size).map encI),[],[]⟩:=by
 refine spec_of ok Go.Proofs.Tryz.func219 ok219 ?_
 refine
  (.k (0≤(↑size:Int)∧(↑size:Int)≤(↑size:Int)∧(↑size:Int)≤140737488355328∧(↑size:Int)*(8:Int)≤140737488355328) (0≤size∧size≤size∧size≤140737488355328∧(↑size:Int)*(8:Int)≤140737488355328) (by simp only[Int.ofNat_le,icLe,ciLe])
  (fun _h6=> ?_) (fun _h6=>False.elim (by omega)))
 refine Sat.pLoop 3 (St.mk [(0,.tree (List.map encView l)),(1,.int .i64 (↑size:Int)),(5,.sref
  (.head 5 0) 0 (↑size:Int).toNat),(6,.int .i64 0)] [(.head 5 0,.row 1 (List.replicate (↑size:Int).toNat
  (.int .i64 0)) true true)]) (by kernel_rfl) (fun(p:Nat×List Int)=>⟨[(0,.tree (l.map encView)),(1,.int .i64 size),(5,.sref
  (.head 5 0) 0 p.2.length),(6,.int .i64 p.1)],[(.head 5 0,.row 1 (p.2.map encI) true true)]⟩) (fun p=>p.1≤l.length∧p.2=epochsOf (l.take p.1) size∧p.2.length=size) (fun p=>l.length-p.1) (0,List.replicate size 0) (by(simp[encI];done)) ?_ ?_
 ·exact⟨by simp,rfl,by simp⟩
 ·rintro⟨k,out⟩ hI again
  obtain⟨h1,h2,h3⟩:=hI
  simp only at h1 h2 h3
  refine(.kl encView l k (fun a4=> ?_) (fun a4=>have a9:List.take out.length (List.map encI out)=List.map encI out:=List.take_of_length_le (by simp); .q (Res.mk
   (.tree (List.take out.length (List.map encI out))) [] []) (by(clear again;(rw[List.take_of_length_le (by omega)]at h2;simp[←h2,List.take_of_length_le];done)))))
  obtain⟨v,hv⟩:∃v,l[k]? =some v:=⟨l[k],by simp⟩
  have hvl:=he v (List.mem_of_getElem? hv)
  refine Sat.pLoop 6 (St.mk [(0,.tree (List.map encView l)),(1,.int .i64 (↑size:Int)),(5,.sref
   (.head 5 0) 0 out.length),(6,.int .i64 (↑k:Int)),(7,.int .i64 0)] [(.head 5 0,.row 1 (List.map encI out) true true)]) (by kernel_rfl) (fun(p:Nat)=>⟨[(0,.tree (l.map encView)),(1,.int .i64 size),(5,.sref
   (.head 5 0) 0 (maxTo out v.Epochs p).length),(6,.int .i64 k),(7,.int .i64 p)],[(.head 5 0,.row 1 ((maxTo out v.Epochs p).map encI) true true)]⟩) (fun p=>p≤v.Epochs.length∧p≤size) (fun p=>size-p) 0 (by(simp[maxTo_zero];done)) ?_ ?_
  ·omega
  ·intro j hj again2
   have hu:=maxTo_len out v.Epochs j
   have hu1:=maxTo_len out v.Epochs (j+1)
   have hat:=maxTo_at out v.Epochs j
   refine(.T (.eh encView hv (.kl encI v.Epochs j (fun a0=> .el encI a0 (.el encI a0 (.el encI a0 (.k ((↑j:Int)<(↑size:Int)) (j<size) (by simp only[Int.ofNat_lt])
    (fun a5=> .k (0≤(↑j:Int)∧(↑j:Int)<(↑(maxTo out v.Epochs j).length:Int)) (0≤j∧j<(maxTo out v.Epochs j).length) (by simp only[Int.ofNat_lt,ciLe])
    (fun a1=> .em encI (maxTo out v.Epochs j) j (by omega) (fun a2 a6=> .T (.eh encView hv (.T (.em encI v.Epochs j ‹_›
    (fun a3 aa=> .et (0≤(↑j:Int)∧(↑j:Int)<(↑(maxTo out v.Epochs j).length:Int)) (by simp only[Int.ofNat_lt,ciLe]) a1 (.eh encI a6
    (have ab:=wI64' ((↑j:Int)+(1:Int)); .A (St.mk [(0,.tree (List.map encView l)),(1,.int .i64 (↑size:Int)),(5,.sref
    (.head 5 0) 0 (maxTo out v.Epochs j).length),(6,.int .i64 (↑k:Int)),(7,.int .i64 (IntKind.i64.wrap ((↑j:Int)+1)))] [(.head 5 0,.row 1 ((List.map encI (maxTo out v.Epochs j)).set (↑j:Int).toNat
    (.int .i64 (if a3>a2 then a3 else a2))) true true)]) (by(clear again again2;(rw[←maxTo_set (by rw[←hat];assumption) ‹_›];simp[encI, *];done))) (again2 (j+(1:Nat)) ⟨(by omega),(by omega)⟩ (by omega))))))))))
    (fun a1=>False.elim (by omega))) (fun a5=>have a7:=wI64' ((↑k:Int)+(1:Int)); .A (St.mk [(0,.tree (List.map encView l)),(1,.int .i64 (↑size:Int)),(5,.sref
    (.head 5 0) 0 (maxTo out v.Epochs j).length),(6,.int .i64 (IntKind.i64.wrap ((↑k:Int)+1)))] [(.head 5 0,.row 1 (List.map encI (maxTo out v.Epochs j)) true true)]) (by simp[a7]) (again ((k+(1:Nat),maxTo out v.Epochs j)) ⟨(by dsimp only;omega),⟨(by dsimp only;(clear again again2;(rw[epochsOf_succ hv,←h2,maxTo_all _ _ _ (by omega)]))),(by dsimp only;omega)⟩⟩ (by dsimp only;omega)))))))
    (fun a0=> .en encI a0 (.en encI a0 (.en encI a0 (.F (have a8:=wI64' ((↑k:Int)+(1:Int)); .A (St.mk [(0,.tree (List.map encView l)),(1,.int .i64 (↑size:Int)),(5,.sref
    (.head 5 0) 0 (maxTo out v.Epochs j).length),(6,.int .i64 (IntKind.i64.wrap ((↑k:Int)+1)))] [(.head 5 0,.row 1 (List.map encI (maxTo out v.Epochs j)) true true)]) (by simp[a8]) (again ((k+(1:Nat),maxTo out v.Epochs j)) ⟨(by dsimp only;omega),⟨(by dsimp only;(clear again again2;(rw[epochsOf_succ hv,←h2,maxTo_all _ _ _ (by omega)]))),(by dsimp only;omega)⟩⟩ (by dsimp only;omega))))))))))
end Go.Ab.Tryz
