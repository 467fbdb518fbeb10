/- Package drop: what all know. -/
import Derived.Test.YtmhceknpmokahaaGreatDoorHold1
import Derived.Test.YtmhceknpmokahaaGreatDoorOwn
import Derived.Test.YtmhceknpmokahaaGreatDoorRef4d
import Derived.Test.YtmhceknpmokahaaGreatDoorRank4
import Derived.Test.YtmhceknpmokahaaGreatDoorOffer1
import Derived.Test.YtmhceknpmokahaaGreatDoorRef11d
import Derived.Test.YtmhceknpmokahaaGreatDoorAbEdge
namespace Go.Ab.Tryz
open Go
set_option maxRecDepth 100000
set_option maxHeartbeats 4000000
theorem pars_good:∀p∈goodP,X.call 102 [.str p.1] [] ⟨.tuple [encFlt p.2,.int .i64 0,.bool true],[],[]⟩:=by
 intro p hp
 simp only[goodP,List.mem_cons,List.not_mem_nil,or_false]at hp
 rcases hp with rfl|rfl|rfl|rfl|rfl|rfl|rfl|rfl|rfl|rfl<;>exact ev_ok envOk 1000 _ _ _ _ (by kernel_rfl)
theorem pars_ex {t:List UInt8} (ht:t∈goodF):X.call 102 [.str t] [] ⟨.tuple [encFlt (parse t).1,.int .i64 0,.bool true],[],[]⟩:=by
 obtain⟨f,hf⟩:=good_all t ht
 have:=pars_good _ hf
 rw[parse_of hf]
 exact this
theorem filter_ex {size:Nat} {B:Int} {r:Repl} (h:r.Ok size B) (hB:B≤1000000000000) (hf:r.own.Filter∈goodF):X.call 57 [encRepl r] [] ⟨encFlt (r.flt parse),[],[]⟩:=by
 have c1:=own_ex h hB
 have c2:=pars_ex hf
 show X.call _ _ _ ⟨encFlt (parse r.own.Filter).1,[],[]⟩
 generalize parse r.own.Filter=p at*
 clear h hf
 refine spec_of ok Go.Proofs.Tryz.func57 ok57 ?_
 refine(.c (@c1) (.c (@c2) .r))
theorem lets_view (w:View) (v:Version) (hf:w.Filter∈goodF) (ha:v.Attrs.length≤1000) (ht:v.Tag.length≤1000):X.call 72 [encView w,encVersion v] [] ⟨.bool ((parse w.Filter).1.lets v),[],[]⟩:=by
 have c2:=pars_ex hf
 have p1:=parse_ok w.Filter
 have p2:=parse_short w.Filter
 generalize parse w.Filter=p at*
 clear hf
 refine spec_of ok Go.Proofs.Tryz.func72 ok72 ?_
 refine(.c (@c2) (.T (.T (.T (.c (@Tryz.c100 (v) ‹_› ‹_› (p.fst) ‹_› ‹_›) (.T .r))))))
theorem knows_ex {size:Nat} {B:Int} (w:View) (mine:List Int) (v:Version) (hw:w.Ok size B) (h5:size≤5) (hm:mine.length=size):X.call 70 [encView w,.tree (mine.map encI),encVersion v] [] ⟨.bool (w.knows size mine v),[],[]⟩:=by
 have h0:=hw.v0
 have hel:=hw.el
 have hord:=(headsMay_iff.1 hw.s).2
 have hsl:=headsMay_len (by omega) hw.s
 clear hw
 refine spec_of ok Go.Proofs.Tryz.func70 ok70 ?_
 refine(.i (w.Rev≤0) (fun a1=> .q (Res.mk (.bool false) [] []) (by(rw[knows_rev (by omega)]))) (fun a1=> .c (@Tryz.c117 (w.Seen) (v.Item) ‹_› (by omega))
  (.c (@Tryz.c116 (headAt w.Seen v.Item) (v.S)) (.i ((headAt w.Seen v.Item).cmp v.S<0) (fun a2=> .q (Res.mk (.bool false) [] []) (by(rw[knows_cmp ‹_›]))) (fun a2=> ?_)))))
 have hwl:w.Epochs.length=size:=hel (by omega)
 refine Sat.pLoop 6 (St.mk [(3,.ref
  (.head 3 0) 0 0),(23,.tree (List.map encI mine)),(24,.int .i64 (↑(List.map encI mine).length:Int)),(25,.int .i64 0)] [(.head 3 0,.box (encView w) true)]) (by kernel_rfl) (fun(k:Nat)=>⟨[(3,.ref
  (.head 3 0) 0 0),(23,.tree (mine.map encI)),(24,.int .i64 mine.length),(25,.int .i64 k)],[(.head 3 0,.box (encView w) true)]⟩) (fun k=>k≤mine.length∧epsIn w.Epochs mine k=true) (fun k=>mine.length-k) 0 (by(simp[encView];done)) ?_ ?_
 ·exact⟨by omega,rfl⟩
 ·intro k hI again
  have hk:=hI.1
  have hn:=hI.2
  clear hI
  refine(.k ((↑k:Int)<(↑mine.length:Int)) (k<mine.length) (by simp only[Int.ofNat_lt]) (fun a3=> .T (.em encI mine k ‹_›
   (fun a4 a8=> .k ((↑(List.map encI w.Epochs).length:Int)≤(↑k:Int)) (w.Epochs.length≤k) (by simp only[List.length_map,Int.ofNat_le]) (fun a0=>False.elim (by omega))
   (fun a0=> .eF ((↑(List.map encI w.Epochs).length:Int)≤(↑k:Int)) (by simp only[List.length_map,Int.ofNat_le]) a0
   (.eF ((↑(List.map encI w.Epochs).length:Int)≤(↑k:Int)) (by simp only[List.length_map,Int.ofNat_le]) a0
   (.eF ((↑(List.map encI w.Epochs).length:Int)≤(↑k:Int)) (by simp only[List.length_map,Int.ofNat_le]) a0 (.T (.em encI w.Epochs k (by omega)
   (fun a5 a9=> .eF ((↑(List.map encI w.Epochs).length:Int)≤(↑k:Int)) (by simp only[List.length_map,Int.ofNat_le]) a0
   (.eF ((↑(List.map encI w.Epochs).length:Int)≤(↑k:Int)) (by simp only[List.length_map,Int.ofNat_le]) a0
   (.eF ((↑(List.map encI w.Epochs).length:Int)≤(↑k:Int)) (by simp only[List.length_map,Int.ofNat_le]) a0
   (.eF ((↑(List.map encI w.Epochs).length:Int)≤(↑k:Int)) (by simp only[List.length_map,Int.ofNat_le]) a0 (.i (a5<a4) (fun a6=> .q (Res.mk
   (.bool false) [] []) (by(clear again;(rw[knows_ep ‹_› ‹_› (by omega) ‹_›])))) (fun a6=>have a7:=wI64' ((↑k:Int)+(1:Int)); .A (St.mk [(3,.ref
   (.head 3 0) 0 0),(23,.tree (List.map encI mine)),(24,.int .i64 (↑mine.length:Int)),(25,.int .i64 (IntKind.i64.wrap ((↑k:Int)+1)))] [(.head 3 0,.box (encView w) true)]) (by simp[encView,a7]) (again (k+(1:Nat)) ⟨(by omega),(by(clear again;(rw[epsIn_succ];simp[*,List.getD];done)))⟩ (by omega))))))))))))))))
   (fun a3=> .q (Res.mk (.bool true) [] []) (by(clear again;(rw[knows_yes (by omega) ‹_› (by omega) (by rw[←hm,show mine.length=k by omega];exact hn)])))))
theorem index_knows {size:Nat} {B:Int} (l:List View) (mine:List Int) (v:Version) (hw:∀w∈l,w.Ok size B) (h5:size≤5) (hm:mine.length=size) (hl:l.length≤100):X.call 115 [.tree (l.map encView),.func 69 [] [.cptr (.tree (mine.map encI)),.cptr (encVersion v)]] [] ⟨.int .i64 (idxOf (fun w=> !w.knows size mine v) l),[],[]⟩:=by
 refine spec_of ok Go.Proofs.Tryz.func115 ok115 ?_
 refine ?_
 refine Sat.pLoop 2 (St.mk [(0,AV.tree (List.map encView l)),(1,AV.func (69:FuncId) [] [(AV.tree (List.map encI mine)).cptr,(encVersion v).cptr]),(7,AV.int IntKind.i64 (↑(List.map encView l).length:Int)),(8,AV.int IntKind.i64 0)] []) (by kernel_rfl) (fun(k:Nat)=>⟨[(0,.tree (l.map encView)),(1,.func 69 [] [.cptr
  (.tree (mine.map encI)),.cptr (encVersion v)]),(7,.int .i64 l.length),(8,.int .i64 k)],[]⟩) (fun k=>k≤l.length∧(l.take k).any (fun w=> !w.knows size mine v)=false) (fun k=>l.length-k) 0 (by simp) ?_ ?_
 ·simp
 ·intro k hI again
  have hk:=hI.1
  have hn:=hI.2
  clear hI
  by_cases hkl:k<l.length
  ·obtain⟨x,hx⟩:∃x,l[k]? =some x:=⟨l[k],by simp⟩
   have c0:=knows_ex x mine v (hw x (List.mem_of_getElem? hx)) h5 hm
   have c1:X.call 69 [encView x,.cptr (.tree (mine.map encI)),.cptr (encVersion v)] [] ⟨.bool (!x.knows size mine v),[],[]⟩:=by
    refine spec_of ok Go.Proofs.Tryz.func69 ok69 ?_
    refine(.c (@c0) .r)
   refine(.et ((↑k:Int)<(↑l.length:Int)) (by simp only[Int.ofNat_lt]) hkl (.T (.eh encView hx (.c (@c1) (.m (View.knows size mine v x)
    (fun a0=> .q (Res.mk (AV.int IntKind.i64 (↑k:Int)) [] []) (by(clear again c0 c1;(rw[idxOf_found hx (by simp[*]) hn]))))
    (fun a0=>have a1:=wI64' ((↑k:Int)+(1:Int)); .A (St.mk [(0,AV.tree (List.map encView l)),(1,AV.func (69:FuncId) [] [(AV.tree (List.map encI mine)).cptr,(encVersion v).cptr]),(7,AV.int IntKind.i64 (↑l.length:Int)),(8,AV.int IntKind.i64 (IntKind.i64.wrap ((↑k:Int)+1)))] []) (by simp[a1]) (again (k+(1:Nat)) ⟨(by omega),(by(clear again c0 c1;(exact any_next hx (by simp[*]) hn)))⟩ (by omega))))))))
  ·rw[List.take_of_length_le (by omega)]at hn
   rw[idxOf_none hn]
   refine(.eF ((↑k:Int)<(↑l.length:Int)) (by simp only[Int.ofNat_lt]) hkl .r)
theorem index_lets (l:List View) (v:Version) (hf:∀w∈l,w.Filter∈goodF) (ha:v.Attrs.length≤1000) (ht:v.Tag.length≤1000) (hl:l.length≤100):X.call 115 [.tree (l.map encView),.func 71 [] [.cptr (encVersion v)]] [] ⟨.int .i64 (idxOf (fun w=>(parse w.Filter).1.lets v) l),[],[]⟩:=by
 refine spec_of ok Go.Proofs.Tryz.func115 ok115 ?_
 refine ?_
 refine Sat.pLoop 2 (St.mk [(0,.tree (List.map encView l)),(1,AV.func (71:FuncId) [] [(encVersion v).cptr]),(7,.int .i64 (↑(List.map encView l).length:Int)),(8,.int .i64 0)] []) (by kernel_rfl) (fun(k:Nat)=>⟨[(0,.tree (l.map encView)),(1,.func 71 [] [.cptr (encVersion v)]),(7,.int .i64 l.length),(8,.int .i64 k)],[]⟩) (fun k=>k≤l.length∧(l.take k).any (fun w=>(parse w.Filter).1.lets v)=false) (fun k=>l.length-k) 0 (by simp) ?_ ?_
 ·simp
 ·intro k hI again
  have hk:=hI.1
  have hn:=hI.2
  clear hI
  by_cases hkl:k<l.length
  ·obtain⟨x,hx⟩:∃x,l[k]? =some x:=⟨l[k],by simp⟩
   have c0:=lets_view x v (hf x (List.mem_of_getElem? hx)) ha ht
   have c1:X.call 71 [encView x,.cptr (encVersion v)] [] ⟨.bool ((parse x.Filter).1.lets v),[],[]⟩:=by
    refine spec_of ok Go.Proofs.Tryz.func71 ok71 ?_
    refine(.c (@c0) .r)
   refine(.et ((↑k:Int)<(↑l.length:Int)) (by simp only[Int.ofNat_lt]) hkl (.T (.eh encView hx (.c (@c1) (.n (Flt.lets v (parse x.Filter).fst) (fun a0=> .q (Res.mk
    (.int .i64 (↑k:Int)) [] []) (by(clear again c0 c1;(rw[idxOf_found hx (by simp[*]) hn]))))
    (fun a0=>have a1:=wI64' ((↑k:Int)+(1:Int)); .A (St.mk [(0,.tree (List.map encView l)),(1,AV.func (71:FuncId) [] [(encVersion v).cptr]),(7,.int .i64 (↑l.length:Int)),(8,.int .i64 (IntKind.i64.wrap ((↑k:Int)+1)))] []) (by simp[a1]) (again (k+(1:Nat)) ⟨(by omega),(by(clear again c0 c1;(exact any_next hx (by simp[*]) hn)))⟩ (by omega))))))))
  ·rw[List.take_of_length_le (by omega)]at hn
   rw[idxOf_none hn]
   refine(.eF ((↑k:Int)<(↑l.length:Int)) (by simp only[Int.ofNat_lt]) hkl .r)
theorem any_knows {size:Nat} {B:Int} (l:List View) (mine:List Int) (v:Version) (hw:∀w∈l,w.Ok size B) (h5:size≤5) (hm:mine.length=size) (hl:l.length≤100):X.call 68 [.tree (l.map encView),.func 69 [] [.cptr (.tree (mine.map encI)),.cptr (encVersion v)]] [] ⟨.bool (l.any fun w=> !w.knows size mine v),[],[]⟩:=by
 have c1:=index_knows l mine v hw h5 hm hl
 clear hw
 refine spec_of ok Go.Proofs.Tryz.func68 ok68 ?_
 refine(.c (@c1) (.q (Res.mk (.bool (decide (0≤idxOf (fun(w:View)=> !View.knows size mine v w) l))) [] []) (by(clear c1;(rw[idxOf_dec])))))
theorem any_lets (l:List View) (v:Version) (hf:∀w∈l,w.Filter∈goodF) (ha:v.Attrs.length≤1000) (ht:v.Tag.length≤1000) (hl:l.length≤100):X.call 68 [.tree (l.map encView),.func 71 [] [.cptr (encVersion v)]] [] ⟨.bool (l.any fun w=>(parse w.Filter).1.lets v),[],[]⟩:=by
 have c1:=index_lets l v hf ha ht hl
 clear hf
 refine spec_of ok Go.Proofs.Tryz.func68 ok68 ?_
 refine(.c (@c1) (.q (Res.mk (.bool (decide (0≤idxOf (fun(w:View)=>Flt.lets v (parse w.Filter).fst) l))) [] []) (by(clear c1;(rw[idxOf_dec])))))
theorem known_ex {size:Nat} {B:Int} {r:Repl} (h:r.Ok size B) (hB:B≤1000000000000) (hf:∀w∈r.Views,w.Fk) (v:Version) (ha:v.Attrs.length≤1000) (ht:v.Tag.length≤1000):X.call 20 [encRepl r,encVersion v] [] ⟨.bool (r.known parse v),[],[]⟩:=by
 have c0:=own_ex h hB
 have hvl:=h.vl
 have hsz:=h.sz
 have h5:=h.s5
 have c1:=any_knows r.Views r.own.Epochs v h.vs h5 h.own_el (by omega)
 by_cases hk:(r.Views.any fun w=> !w.knows size r.own.Epochs v)=true
 ·rw[hk]at c1
  have e:r.known parse v=false:=by
   obtain⟨w,hw,hc⟩:=List.any_eq_true.1 hk
   unfold Repl.known
   rw[Bool.and_eq_false_iff];left
   rw[List.all_eq_false]
   exact⟨w,hw,by rw[show r.Size.toNat=size by omega];simpa using hc⟩
  rw[e]
  clear hk e h hf
  refine spec_of ok Go.Proofs.Tryz.func20 ok20 ?_
  refine(.c (@c0) (.c (@c1) (.T .r)))
 ·have hk:(r.Views.any fun w=> !w.knows size r.own.Epochs v)=false:=by simpa using hk
  rw[hk]at c1
  have hall:∀w∈r.Views,w.knows size r.own.Epochs v=true:=fun w hw=>by
   have:=List.any_eq_false.1 hk w hw
   simpa using this
  have c2:=any_lets r.Views v (fun w hw=>(hf w hw).f (knows_inv (hall w hw)).1) ha ht (by omega)
  have e:r.known parse v=r.Views.any fun w=>(parse w.Filter).1.lets v:=by
   unfold Repl.known
   rw[show r.Size.toNat=size by omega,List.all_eq_true.2 hall,Bool.true_and]
  rw[e]
  generalize (r.Views.any fun w=>(parse w.Filter).1.lets v)=b at*
  clear hk e h hf hall
  refine spec_of ok Go.Proofs.Tryz.func20 ok20 ?_
  refine(.c (@c0) (.c (@c1) (.F (.k (r.Size≤(↑(List.map encView r.Views).length:Int)) (r.Size≤(↑r.Views.length:Int)) (by simp only[List.length_map])
   (fun a0=> .et (r.Size≤(↑(List.map encView r.Views).length:Int)) (by simp only[List.length_map]) a0
   (.et (r.Size≤(↑(List.map encView r.Views).length:Int)) (by simp only[List.length_map]) a0 (.et (r.Size≤(↑(List.map encView r.Views).length:Int)) (by simp only[List.length_map]) a0
   (.c (@c2) (.et (r.Size≤(↑(List.map encView r.Views).length:Int)) (by simp only[List.length_map]) a0 .r))))) (fun a0=>False.elim (by omega))))))
theorem sweep_ex {size:Nat} {B:Int} {r:Repl} (h:r.Ok size B) (hB:B≤1000000000000) (hf:∀w∈r.Views,w.Fk):X.call 23 [encRepl r] [] ⟨encRepl (r.sweep parse),[],[]⟩:=by
 have hvl:=h.vl
 have h5:=h.s5
 have hhl:=h.hm.len
 have cF:=filter_ex h hB ((hf _ h.own_mem).f (by have:=h.o1;omega))
 have fit:∀v∈r.Held,v.Attrs.length≤1000∧v.Tag.length≤1000:=fun v hv=>by
  have f:=Version.may_fit (h.hm.may v hv);have:=f.al;have:=f.tl;omega
 have cO:=c73 r.Held (r.flt parse) (by omega) fit (parse_ok _) (parse_short _)
 have hva:∀v∈r.Views,v.Seen.length≤1000∧v.Epochs.length≤1000:=fun v hv=>by
  have:=(h.vs v hv).slen;have:=(h.vs v hv).elen;omega
 have cM:=merge_nil r.Views (by omega) hva
 have cK:=fun v (hv:v∈r.Held)=>known_ex h hB hf v (fit v hv).1 (fit v hv).2
 have hol:(outsF (r.flt parse) r.Held).length≤6:=Nat.le_trans (List.length_filter_le _ _) (by omega)
 have hall:=sweptTo_all (p:=r.known parse) (f:=r.flt parse) h.hm.ord
 have hno:∀p:Version→Bool,((r.Held.filter p).filter fun v=>decide (v.Item≠0))=r.Held.filter p:=fun p=>nought_out fun v hv=>by
  have:=(Version.may_fit (h.hm.may v (List.mem_filter.1 hv).1)).i0;omega
 refine spec_of ok Go.Proofs.Tryz.func23 ok23 ?_
 refine(.c (@cF) (.c (@cO) ?_))
 refine Sat.pLoop 3 (St.mk [(1,.ref (.head 1 0) 0 0),(2,.ref (.head 2 0) 0 0),(3,.ref
  (.head 3 0) 0 0),(11,.tree (List.map encVersion (outsF (Repl.flt parse r) r.Held))),(12,.int .i64 (↑(List.map encVersion (outsF (Repl.flt parse r) r.Held)).length:Int)),(13,.int .i64 0)] [(.head 1 0,.box (encRepl r) true),
  (.head 2 0,.box (.agg [.int .i64 0,.int .i64 0,.int .i64 0,.int .i64 0,.int .i64 0,.nils,.nils]) true),(.head 3 0,.box (encRepl r) true)]) (by kernel_rfl) (fun(k:Nat)=>⟨[(1,.ref
  (.head 1 0) 0 0),(2,.ref (.head 2 0) 0 0),(3,.ref
  (.head 3 0) 0 0),(11,.tree ((outsF (r.flt parse) r.Held).map encVersion)),(12,.int .i64 (outsF (r.flt parse) r.Held).length),(13,.int .i64 k)],[(.head 1 0,.box (encRepl { r with Held:=sweptTo (r.known parse) ((outsF (r.flt parse) r.Held).take k) r.Held }) true),
  (.head 2 0,.box (.agg [.int .i64 0,.int .i64 0,.int .i64 0,.int .i64 0,.int .i64 0,.nils,.nils]) true),
  (.head 3 0,.box (encRepl r) true)]⟩) (fun k=>k≤(outsF (r.flt parse) r.Held).length) (fun k=>(outsF (r.flt parse) r.Held).length-k) 0 (by(simp[encRepl,sweptTo_zero];done)) ?_ ?_
 ·omega
 ·intro k hk again
  have hsw:=sweptTo_len (r.known parse) ((outsF (r.flt parse) r.Held).take k) r.Held
  have hsf:∀v∈sweptTo (r.known parse) ((outsF (r.flt parse) r.Held).take k) r.Held,v.Attrs.length≤1000:=fun v hv=>(fit v (sweptTo_mem hv)).1
  by_cases hkl:k<(outsF (r.flt parse) r.Held).length
  ·obtain⟨v,hv⟩:∃v,(outsF (r.flt parse) r.Held)[k]? =some v:=⟨_,List.getElem?_eq_getElem hkl⟩
   have ck:=cK v (List.mem_filter.1 (List.mem_of_getElem? hv)).1
   have cW:=c74 (sweptTo (r.known parse) ((outsF (r.flt parse) r.Held).take k) r.Held) v.Item (by omega) hsf
   cases hkn:r.known parse v with
   |true=>
    have hyes:=sweptTo_yes (H:=r.Held) hv hkn
    rw[hkn]at ck
    rw[hyes]at cW
    clear hall hno hyes cK
    refine(.et ((↑k:Int)<(↑(outsF (Repl.flt parse r) r.Held).length:Int)) (by simp only[Int.ofNat_lt]) hkl (.T (.eh encVersion hv (.c (@ck) (.T (.c (@cW)
     (have a0:=wI64' ((↑k:Int)+(1:Int)); .A (St.mk [(1,.ref (.head 1 0) 0 0),(2,.ref (.head 2 0) 0 0),(3,.ref
     (.head 3 0) 0 0),(11,.tree (List.map encVersion (outsF (Repl.flt parse r) r.Held))),(12,.int .i64 (↑(outsF (Repl.flt parse r) r.Held).length:Int)),(13,.int .i64 (IntKind.i64.wrap ((↑k:Int)+1)))] [(.head 1 0,.box
     (.agg [.int .i64 r.ID,.int .i64 r.Size,.int .i64 r.L,.int .i64 r.N,.int .i64 r.Quota,.tree (List.map encVersion (sweptTo (Repl.known parse r) (List.take (k+1) (outsF (Repl.flt parse r) r.Held)) r.Held)),.tree (List.map encView r.Views)]) true),
     (.head 2 0,.box (.agg [.int .i64 0,.int .i64 0,.int .i64 0,.int .i64 0,.int .i64 0,.nils,.nils]) true),
     (.head 3 0,.box (encRepl r) true)]) (by simp[encRepl,a0]) (again (k+(1:Nat)) (by omega) (by omega)))))))))
   |false=>
    have hnot:=sweptTo_no (H:=r.Held) hv hkn
    rw[hkn]at ck
    clear hall hno cK
    refine(.et ((↑k:Int)<(↑(outsF (Repl.flt parse r) r.Held).length:Int)) (by simp only[Int.ofNat_lt]) hkl (.T (.eh encVersion hv (.c (@ck) (.F
     (have a0:=wI64' ((↑k:Int)+(1:Int)); .A (St.mk [(1,.ref (.head 1 0) 0 0),(2,.ref (.head 2 0) 0 0),(3,.ref
     (.head 3 0) 0 0),(11,.tree (List.map encVersion (outsF (Repl.flt parse r) r.Held))),(12,.int .i64 (↑(outsF (Repl.flt parse r) r.Held).length:Int)),(13,.int .i64 (IntKind.i64.wrap ((↑k:Int)+1)))] [(.head 1 0,.box
     (.agg [.int .i64 r.ID,.int .i64 r.Size,.int .i64 r.L,.int .i64 r.N,.int .i64 r.Quota,.tree (List.map encVersion (sweptTo (Repl.known parse r) (List.take k (outsF (Repl.flt parse r) r.Held)) r.Held)),.tree (List.map encView r.Views)]) true),
     (.head 2 0,.box (.agg [.int .i64 0,.int .i64 0,.int .i64 0,.int .i64 0,.int .i64 0,.nils,.nils]) true),
     (.head 3 0,.box (encRepl r) true)]) (by simp[encRepl,hnot, *];done) (again (k+(1:Nat)) (by omega) (by omega))))))))
  ·have e:(outsF (r.flt parse) r.Held).take k=outsF (r.flt parse) r.Held:=List.take_of_length_le (by omega)
   rw[e]at hsw hsf ⊢
   rw[hall]at hsw hsf ⊢
   have cW:=c74 (r.Held.filter fun v=>(r.flt parse).lets v|| !r.known parse v) 0 (by omega) hsf
   rw[hno]at cW
   clear hall hno cK
   refine(.eF ((↑k:Int)<(↑(outsF (Repl.flt parse r) r.Held).length:Int)) (by simp only[Int.ofNat_lt]) hkl (.c (@cW) (.c (@cM) .r)))
end Go.Ab.Tryz
