/- Package cardamomref11: writes, as plain Lean. -/
import Derived.Test.YtmhceknpmokahaaGreatDoorRef11a
import Derived.Test.YtmhceknpmokahaaGreatDoorRef1f
namespace Go.Ab.Tryz
open Go
set_option maxRecDepth 100000
set_option maxHeartbeats 4000000
theorem c99 (r:Repl) (v:Version) (h1:1≤r.ID) (h2:r.ID≤r.Views.length) (hl:r.Views.length≤1000) (hh:r.Held.length≤1000) (hs:(ownOf r.ID r.Views).Seen.length≤1000) (hr:0≤(ownOf r.ID r.Views).Rev) (hr2:(ownOf r.ID r.Views).Rev≤1000000000000):X.call 99 [encRepl r,encVersion v] [] ⟨encRepl (r.write v),[],[]⟩:=by
 refine spec_of ok Go.Proofs.Tryz.func99 ok99 ?_
 refine(.c (@Tryz.c114 (r.Held) (v) ‹_›) (.c (@Tryz.c30 (Repl.mk r.ID r.Size v.S.L v.S.N r.Quota (putV r.Held v) r.Views) (by dsimp only;assumption))
  (.c (@Tryz.c149 ((ownOf r.ID r.Views).Seen) (Head.mk v.Item v.S) ‹_›)
  (have a0:=wI64' ((ownOf r.ID r.Views).Rev+(1:Int)); .C ([.agg [.int .i64 r.ID,.int .i64 r.Size,.int .i64 v.S.L,.int .i64 v.S.N,.int .i64 r.Quota,.tree (List.map encVersion (putV r.Held v)),.tree (List.map encView r.Views)],.agg [.int .i64 (ownOf r.ID r.Views).R,.int .i64 (IntKind.i64.wrap ((ownOf r.ID r.Views).Rev+1)),.str (ownOf r.ID r.Views).Filter,.tree (List.map encHead (putHead (ownOf r.ID r.Views).Seen (Head.mk v.Item v.S))),.tree (List.map encI (ownOf r.ID r.Views).Epochs)]]) ([]) (by simp[encView,encRepl,a0]) rfl (@Tryz.c150 (Repl.mk r.ID r.Size v.S.L v.S.N r.Quota (putV r.Held v) r.Views) (View.mk (ownOf r.ID r.Views).R ((ownOf r.ID r.Views).Rev+(1:Int)) (ownOf r.ID r.Views).Filter (putHead (ownOf r.ID r.Views).Seen (Head.mk v.Item v.S)) (ownOf r.ID r.Views).Epochs) (by dsimp only;assumption) (by dsimp only;assumption) (by dsimp only;assumption)) .r))))
theorem c48 (r:Repl) (item:Int) (attrs:List Attr) (tag body:List UInt8) (ha:attrs.length≤1000) (ht:tag.length≤1000) (hb:body.length≤1000)
  (h1:1≤r.ID) (h2:r.ID≤r.Views.length) (hl:r.Views.length≤1000) (hh:r.Held.length≤1000) (hs:(ownOf r.ID r.Views).Seen.length≤1000) (hr:0≤(ownOf r.ID r.Views).Rev) (hr2:(ownOf r.ID r.Views).Rev≤1000000000000) (hf:(ownOf r.ID r.Views).Filter.length≤100000)
  (hv:∀v∈r.Held,v.Attrs.length≤100000∧v.Tag.length≤100000):X.call 48 [encRepl r,.int .i64 item,.tree (attrs.map encAttr),.str tag,.str body] [] ⟨.tuple [encRepl (r.put parse item attrs tag body).1,encVersion (r.put parse item attrs tag body).2.1,.int .i64 (r.put parse item attrs tag body).2.2],[],[]⟩:=by
 have p1:=parse_ok (ownOf r.ID r.Views).Filter
 have p2:=parse_short (ownOf r.ID r.Views).Filter
 refine spec_of ok Go.Proofs.Tryz.func48 ok48 ?_
 refine(.z encAttr attrs 2 (fun _=>rfl) (.k ((0+(List.map encAttr attrs).length)*(16:Nat)≤140737488355328) ((0+attrs.length)*(16:Nat)≤140737488355328) (by simp only[List.length_map])
  (fun a1=> .T
  (have a5:List.take ((0:Nat)+(List.map encAttr attrs).length) (List.map encAttr attrs)=List.map encAttr attrs:=List.take_of_length_le (by simp); .C ([.agg [.int .i64 item,.int .i64 1,.int .i64 1,.int .i64 1,.bool false,.tree (List.take (0+(List.map encAttr attrs).length) (List.map encAttr attrs)),.str tag,.str body]]) ([]) (by simp[List.take_of_length_le,encVersion]) rfl (@Tryz.c96 (Version.mk item (Stamp.mk (1:Int) (1:Int) (1:Int)) Bool.false attrs tag body) (by dsimp only;omega) (by dsimp only;omega) (by dsimp only;omega))
  (.m ((Version.mk item (Stamp.mk 1 1 1) false attrs tag body).may)
  (fun a2=> .q (Res.mk (AV.tuple [encRepl r,.agg [.int .i64 0,.int .i64 0,.int .i64 0,.int .i64 0,.bool false,.tree [],.str [],.str []],.int .i64 1]) [] []) (by(simp_all[Repl.put,encRepl,encVersion,Version.zero];done)))
  (fun a2=> .c (@Tryz.c97 (r.L) (r.ID) (r.N)) (.m ((nextStamp r.L r.ID r.N).snd)
  (fun a3=> .q (Res.mk (AV.tuple [encRepl r,.agg [.int .i64 0,.int .i64 0,.int .i64 0,.int .i64 0,.bool false,.tree [],.str [],.str []],.int .i64 5]) [] []) (by(simp_all[Repl.put,encRepl,encVersion,Version.zero];done)))
  (fun a3=> .c (@Tryz.c26 (r) ‹_› ‹_›)
  (.C ([encFlt (Repl.flt parse r),.agg [.int .i64 item,.int .i64 (nextStamp r.L r.ID r.N).fst.L,.int .i64 (nextStamp r.L r.ID r.N).fst.R,.int .i64 (nextStamp r.L r.ID r.N).fst.N,.bool false,.tree (List.take (0+(List.map encAttr attrs).length) (List.map encAttr attrs)),.str tag,.str body]]) ([]) (by simp[encFlt,List.take_of_length_le,encVersion]) rfl (@Tryz.c32 (Version.mk item (nextStamp r.L r.ID r.N).fst Bool.false attrs tag body) (by dsimp only;omega) (by dsimp only;omega) (Repl.flt parse r) ‹_› ‹_›)
  (.m (Flt.lets (Version.mk item (nextStamp r.L r.ID r.N).fst false attrs tag body) (Repl.flt parse r)) (fun a0=> .y a0 (.y a0 (.y a0 (.y a0 (.y a0
  (.c (@Tryz.c98 (r) (Repl.flt parse r) (item) ‹_› ‹_› ‹_› ‹_›) (.y a0 (.y a0 (.i (r.Quota≤(↑(r.custody (Repl.flt parse r) item):Int))
  (fun a4=> .q (Res.mk (AV.tuple [encRepl r,.agg [.int .i64 0,.int .i64 0,.int .i64 0,.int .i64 0,.bool false,.tree [],.str [],.str []],.int .i64 4]) [] []) (by(simp_all[Repl.put,encRepl,encVersion,Version.zero];done)))
  (fun a4=> .C ([encRepl r,.agg [.int .i64 item,.int .i64 (nextStamp r.L r.ID r.N).fst.L,.int .i64 (nextStamp r.L r.ID r.N).fst.R,.int .i64 (nextStamp r.L r.ID r.N).fst.N,.bool false,.tree (List.take (0+(List.map encAttr attrs).length) (List.map encAttr attrs)),.str tag,.str body]]) ([]) (by simp[List.take_of_length_le,encVersion,encRepl]) rfl (@Tryz.c99 (r) (Version.mk item (nextStamp r.L r.ID r.N).fst Bool.false attrs tag body) ‹_› ‹_› ‹_› ‹_› ‹_› ‹_› ‹_›)
  (.q (Res.mk (AV.tuple [encRepl (r.write (Version.mk item (nextStamp r.L r.ID r.N).fst false attrs tag body)),.agg [.int .i64 item,.int .i64 (nextStamp r.L r.ID r.N).fst.L,.int .i64 (nextStamp r.L r.ID r.N).fst.R,.int .i64 (nextStamp r.L r.ID r.N).fst.N,.bool false,.tree (List.take (0+(List.map encAttr attrs).length) (List.map encAttr attrs)),.str tag,.str body],.int .i64 0]) [] []) ?_)))))))))))
  (fun a0=> .x a0 (.x a0 (.x a0 (.x a0 (.x a0 (.x a0 (.x a0 (.F
  (.C ([encRepl r,.agg [.int .i64 item,.int .i64 (nextStamp r.L r.ID r.N).fst.L,.int .i64 (nextStamp r.L r.ID r.N).fst.R,.int .i64 (nextStamp r.L r.ID r.N).fst.N,.bool false,.tree (List.take (0+(List.map encAttr attrs).length) (List.map encAttr attrs)),.str tag,.str body]]) ([]) (by simp[List.take_of_length_le,encVersion,encRepl]) rfl (@Tryz.c99 (r) (Version.mk item (nextStamp r.L r.ID r.N).fst Bool.false attrs tag body) ‹_› ‹_› ‹_› ‹_› ‹_› ‹_› ‹_›)
  (.q (Res.mk (AV.tuple [encRepl (r.write (Version.mk item (nextStamp r.L r.ID r.N).fst false attrs tag body)),.agg [.int .i64 item,.int .i64 (nextStamp r.L r.ID r.N).fst.L,.int .i64 (nextStamp r.L r.ID r.N).fst.R,.int .i64 (nextStamp r.L r.ID r.N).fst.N,.bool false,.tree (List.take (0+(List.map encAttr attrs).length) (List.map encAttr attrs)),.str tag,.str body],.int .i64 0]) [] []) (by(simp_all[Repl.put,encRepl,encVersion,Version.zero];done))))))))))))))))))))
  (fun a1=>False.elim (by omega))))
 ·have e:r.put parse item attrs tag body=(r.write ⟨item,(nextStamp r.L r.ID r.N).1,false,attrs,tag,body⟩,⟨item,(nextStamp r.L r.ID r.N).1,false,attrs,tag,body⟩,0):=by
   unfold Repl.put;rw[if_pos (by assumption),if_pos (by assumption),if_neg (by simp[*])]
  rw[e]
  simp[encRepl,encVersion,List.take_of_length_le]
theorem c209 (r:Repl) (item:Int)
  (h1:1≤r.ID) (h2:r.ID≤r.Views.length) (hl:r.Views.length≤1000) (hh:r.Held.length≤1000) (hs:(ownOf r.ID r.Views).Seen.length≤1000) (hr:0≤(ownOf r.ID r.Views).Rev) (hr2:(ownOf r.ID r.Views).Rev≤1000000000000):X.call 209 [encRepl r,.int .i64 item] [] ⟨.tuple [encRepl (r.delete item).1,encVersion (r.delete item).2.1,.int .i64 (r.delete item).2.2],[],[]⟩:=by
 have hd:r.delete item=if((findV r.Held item).isSome&& !((findV r.Held item).getD Version.zero).Dead)then(if(nextStamp r.L r.ID r.N).2 then
   (r.write ⟨item,(nextStamp r.L r.ID r.N).1,true,((findV r.Held item).getD Version.zero).Attrs,((findV r.Held item).getD Version.zero).Tag,[]⟩,⟨item,(nextStamp r.L r.ID r.N).1,true,((findV r.Held item).getD Version.zero).Attrs,((findV r.Held item).getD Version.zero).Tag,[]⟩,0)else(r,Version.zero,5))else(r,Version.zero,3):=by
  unfold Repl.delete
  cases findV r.Held item with
  |none=>rfl
  |some w=>cases hw:w.Dead<;>simp[hw]
 rw[hd]
 unfold Version.zero
 refine spec_of ok Go.Proofs.Tryz.func209 ok209 ?_
 refine(.c (@Tryz.c39 (r.Held) (item) (by omega)) (.m ((findV r.Held item).isSome) (fun a0=> .y a0 (.y a0 (.T
  (.q (Res.mk (AV.tuple [encRepl r,.agg [.int .i64 0,.int .i64 0,.int .i64 0,.int .i64 0,.bool false,.tree [],.str [],.str []],.int .i64 3]) [] []) (by(simp_all[encRepl,encVersion];done))))))
  (fun a0=> .x a0 (.x a0 (.n (((findV r.Held item).getD (Version.mk 0 (Stamp.mk 0 0 0) false [] [] [])).Dead)
  (fun a1=> .q (Res.mk (AV.tuple [encRepl r,.agg [.int .i64 0,.int .i64 0,.int .i64 0,.int .i64 0,.bool false,.tree [],.str [],.str []],.int .i64 3]) [] []) (by(simp_all[encRepl,encVersion];done)))
  (fun a1=> .c (@Tryz.c97 (r.L) (r.ID) (r.N)) (.m ((nextStamp r.L r.ID r.N).snd)
  (fun a2=> .q (Res.mk (AV.tuple [encRepl r,.agg [.int .i64 0,.int .i64 0,.int .i64 0,.int .i64 0,.bool false,.tree [],.str [],.str []],.int .i64 5]) [] []) (by(simp_all[encRepl,encVersion];done)))
  (fun a2=> .c (@Tryz.c99 (r) (Version.mk item (nextStamp r.L r.ID r.N).fst Bool.true ((findV r.Held item).getD (Version.mk (0:Int) (Stamp.mk (0:Int) (0:Int) (0:Int)) Bool.false [] [] [])).Attrs ((findV r.Held item).getD (Version.mk (0:Int) (Stamp.mk (0:Int) (0:Int) (0:Int)) Bool.false [] [] [])).Tag []) ‹_› ‹_› ‹_› ‹_› ‹_› ‹_› ‹_›)
  (.q (Res.mk (AV.tuple [encRepl (r.write (Version.mk item (nextStamp r.L r.ID r.N).fst true ((findV r.Held item).getD (Version.mk 0 (Stamp.mk 0 0 0) false [] [] [])).Attrs ((findV r.Held item).getD (Version.mk 0 (Stamp.mk 0 0 0) false [] [] [])).Tag [])),.agg [.int .i64 item,.int .i64 (nextStamp r.L r.ID r.N).fst.L,.int .i64 (nextStamp r.L r.ID r.N).fst.R,.int .i64 (nextStamp r.L r.ID r.N).fst.N,.bool true,.tree (List.map encAttr ((findV r.Held item).getD (Version.mk 0 (Stamp.mk 0 0 0) false [] [] [])).Attrs),.str ((findV r.Held item).getD (Version.mk 0 (Stamp.mk 0 0 0) false [] [] [])).Tag,.str []],.int .i64 0]) [] []) (by(simp_all[encRepl,encVersion];done)))))))))))
theorem c208 (r:Repl) (text:List UInt8) (ht:text.length≤1000)
  (h1:1≤r.ID) (h2:r.ID≤r.Views.length) (hl:r.Views.length≤1000) (hh:r.Held.length≤1000) (hr:0≤(ownOf r.ID r.Views).Rev) (hr2:(ownOf r.ID r.Views).Rev≤1000000000000) (he:(ownOf r.ID r.Views).Epochs.length=r.Views.length) (he2:∀e∈(ownOf r.ID r.Views).Epochs,0≤e∧e≤1000000000000)
  (hv:∀v∈r.Held,v.Attrs.length≤100000∧v.Tag.length≤100000):X.call 208 [encRepl r,.str text] [] ⟨.tuple [encRepl (r.setFilter parse text).1,.int .i64 (r.setFilter parse text).2],[],[]⟩:=by
 have p1:=parse_ok text
 have p2:=parse_short text
 obtain⟨x,hx⟩:∃x,(ownOf r.ID r.Views).Epochs[(r.ID-1).toNat]? =some x:=⟨(ownOf r.ID r.Views).Epochs[(r.ID-1).toNat]'(by omega),by simp⟩
 have hxb:=he2 x (List.mem_of_getElem? hx)
 have hi:incAt (ownOf r.ID r.Views).Epochs (r.ID-1).toNat=(ownOf r.ID r.Views).Epochs.set (r.ID-1).toNat (x+1):=by unfold incAt;rw[List.getD,hx];rfl
 refine spec_of ok Go.Proofs.Tryz.func208 ok208 ?_
 refine(.c (@Tryz.c31 (text) (by omega)) (.m ((parse text).snd.snd) (fun a2=> .q (Res.mk (AV.tuple [encRepl r,.int .i64 2]) [] []) (by(simp_all[Repl.setFilter,encRepl];done)))
  (fun a2=> .c (@Tryz.c98 (r) ((parse text).fst) ((0:Int)) ‹_› ‹_› ‹_› ‹_›) (.i (r.Quota<(↑(r.custody (parse text).fst 0):Int))
  (fun a3=> .q (Res.mk (AV.tuple [encRepl r,.int .i64 4]) [] []) (by(simp_all[Repl.setFilter,encRepl];done))) (fun a3=> .c (@Tryz.c30 (r) ‹_›) (.c (@Tryz.c40 (r.Held) ‹_›)
  (.z encI ((ownOf r.ID r.Views).Epochs) 1 (fun _=>rfl)
  (.k ((0+(List.map encI (ownOf r.ID r.Views).Epochs).length)*(8:Nat)≤140737488355328) ((0+(ownOf r.ID r.Views).Epochs.length)*(8:Nat)≤140737488355328) (by simp only[List.length_map])
  (fun a4=> .T
  (have a0:=wI64' (r.ID-(1:Int)); .k (0≤IntKind.i64.wrap (r.ID-1)∧IntKind.i64.wrap (r.ID-1)<(↑(0+(List.map encI (ownOf r.ID r.Views).Epochs).length):Int)) (0≤r.ID-1∧r.ID-1<(↑(0+(ownOf r.ID r.Views).Epochs.length):Int)) (by simp only[List.length_map,a0])
  (fun a1=> .eH encI ((ownOf r.ID r.Views).Epochs) ((IntKind.i64.wrap (r.ID-1)).toNat) (by simp only[a0]) hx
  (.et (0≤IntKind.i64.wrap (r.ID-1)∧IntKind.i64.wrap (r.ID-1)<(↑(0+(List.map encI (ownOf r.ID r.Views).Epochs).length):Int)) (by simp only[List.length_map,a0]) a1
  (.eH encI ((ownOf r.ID r.Views).Epochs) ((IntKind.i64.wrap (r.ID-1)).toNat) (by simp only[a0]) hx
  (have a5:=wI64' ((ownOf r.ID r.Views).Rev+(1:Int));have a6:=wI64' (x+(1:Int));have a7:List.take ((0:Nat)+(List.map encI (ownOf r.ID r.Views).Epochs).length) ((List.map encI (ownOf r.ID r.Views).Epochs).set (r.ID-(1:Int)).toNat (AV.int IntKind.i64 (x+(1:Int))))=(List.map encI (ownOf r.ID r.Views).Epochs).set (r.ID-(1:Int)).toNat (AV.int IntKind.i64 (x+(1:Int))):=List.take_of_length_le (by simp); .C ([encRepl r,.agg [.int .i64 (ownOf r.ID r.Views).R,.int .i64 (IntKind.i64.wrap ((ownOf r.ID r.Views).Rev+1)),.str text,.tree (List.map encHead (headsOf r.Held)),.tree (List.take (0+(List.map encI (ownOf r.ID r.Views).Epochs).length) ((List.map encI (ownOf r.ID r.Views).Epochs).set (IntKind.i64.wrap (r.ID-1)).toNat
  (.int .i64 (IntKind.i64.wrap (x+1)))))]]) ([]) (by simp[encI,List.take_of_length_le,encView,encRepl,a6,a5,a0]) rfl (@Tryz.c150 (r) (View.mk (ownOf r.ID r.Views).R ((ownOf r.ID r.Views).Rev+(1:Int)) text (headsOf r.Held) ((ownOf r.ID r.Views).Epochs.set (r.ID-(1:Int)).toNat (x+(1:Int)))) ‹_› ‹_› ‹_›)
  (.q (Res.mk (AV.tuple [.agg [.int .i64 r.ID,.int .i64 r.Size,.int .i64 r.L,.int .i64 r.N,.int .i64 r.Quota,.tree (List.map encVersion r.Held),.tree (List.map encView (r.Views.set (r.ID-1).toNat (View.mk (ownOf r.ID r.Views).R ((ownOf r.ID r.Views).Rev+1) text (headsOf r.Held) ((ownOf r.ID r.Views).Epochs.set (r.ID-1).toNat (x+1)))))],.int .i64 0]) [] []) ?_)))))
  (fun a1=>False.elim (by omega)))) (fun a4=>False.elim (by omega))))))))))
 ·have e:r.setFilter parse text=(r.refilter text,0):=by unfold Repl.setFilter;rw[if_pos (by assumption),if_neg (by assumption)]
  rw[e]
  unfold Repl.refilter
  rw[hi]
  simp[encRepl]
theorem newV_yes {id size k:Nat} (hk:1≤k) (h:k=id):(List.range k).map (newView id size)=(List.range (k-1)).map (newView id size)++[⟨(k:Int),1,[42],[],List.replicate size 0⟩]:=by
 subst h
 obtain⟨j,rfl⟩:∃j,k=j+1:=⟨k-1,by omega⟩
 rw[List.range_succ,List.map_append];simp[newView]
theorem newV_no {id size k:Nat} (hk:1≤k) (h:¬k=id):(List.range k).map (newView id size)=(List.range (k-1)).map (newView id size)++[⟨(k:Int),0,[],[],[]⟩]:=by
 obtain⟨j,rfl⟩:∃j,k=j+1:=⟨k-1,by omega⟩
 rw[List.range_succ,List.map_append];simp[newView,h]
theorem c50 (id size:Nat) (quota:Int) (h1:1≤id) (h2:id≤size) (h3:size≤5) (h4:0≤quota) (h5:quota≤8):X.call 50 [.int .i64 id,.int .i64 size,.int .i64 quota] [] ⟨.tuple [encRepl (newRepl id size quota),.bool true],[],[]⟩:=by
 refine spec_of ok Go.Proofs.Tryz.func50 ok50 ?_
 have again_l:∀(j:Nat) (vs:List View),2≤j→j≤size+1→vs.length≤10→vs=(List.range (j-1)).map (newView id size)→Sat X 50 (loopD X.cfg 50 Go.Proofs.Tryz.f50 0 5 ⟨[(0,.int .i64 id),(1,.int .i64 size),(6,.ref (.head 6 0) 0 0),(8,.ref (.head 8 0) 0 0),(9,.int .i64 j)],[(.head 6 0,.box (.agg [.int .i64 0,.int .i64 0,.int .i64 0,.int .i64 0,.int .i64 0,.nils,.nils]) true),(.head 8 0,.box (.agg [.int .i64 id,.int .i64 size,.int .i64 0,.int .i64 0,.int .i64 quota,.nils,.sref (.head 8 1) 0 vs.length]) true),(.head 8 1,.row 5 (vs.map encView) true true)]⟩) (· =⟨.tuple [encRepl (newRepl id size quota),.bool true],[],[]⟩):=by
  intro j vs h6 h7 h8 h9
  refine Sat.pLoop 5 (St.mk [(0,.int .i64 (↑id:Int)),(1,.int .i64 (↑size:Int)),(6,.ref (.head 6 0) 0 0),(8,.ref (.head 8 0) 0 0),(9,.int .i64 (↑j:Int))] [(.head 6 0,.box
   (.agg [.int .i64 0,.int .i64 0,.int .i64 0,.int .i64 0,.int .i64 0,.nils,.nils]) true),(.head 8 0,.box
   (.agg [.int .i64 (↑id:Int),.int .i64 (↑size:Int),.int .i64 0,.int .i64 0,.int .i64 quota,.nils,.sref (.head 8 1) 0 vs.length]) true),
   (.head 8 1,.row 5 (List.map encView vs) true true)]) (by kernel_rfl) (fun(p:Nat×List View)=>⟨[(0,.int .i64 id),(1,.int .i64 size),(6,.ref (.head 6 0) 0 0),(8,.ref
   (.head 8 0) 0 0),(9,.int .i64 p.1)],[(.head 6 0,.box (.agg [.int .i64 0,.int .i64 0,.int .i64 0,.int .i64 0,.int .i64 0,.nils,.nils]) true),(.head 8 0,.box
   (.agg [.int .i64 id,.int .i64 size,.int .i64 0,.int .i64 0,.int .i64 quota,.nils,.sref (.head 8 1) 0 p.2.length]) true),
   (.head 8 1,.row 5 (p.2.map encView) true true)]⟩) (fun p=>2≤p.1∧p.1≤size+1∧p.2.length≤10∧p.2=(List.range (p.1-1)).map (newView id size)) (fun p=>size+1-p.1) (j,vs) rfl ?_ ?_
  ·exact⟨h6,h7,h8,h9⟩
  ·rintro⟨i,ws⟩ hI again
   obtain⟨i1,i2,i3,i4⟩:=hI
   simp only at i1 i2 i3 i4
   have i5:ws.length+1=i:=by rw[i4];simp;omega
   refine(.k ((↑i:Int)≤(↑size:Int)) (i≤size) (by simp only[Int.ofNat_le]) (fun a1=> .k ((↑i:Int)=(↑id:Int)) (i=id) (by simp only[Int.natCast_inj]) (fun aa=> .b
    (.k (0≤(↑size:Int)∧(↑size:Int)≤(↑size:Int)∧(↑size:Int)≤140737488355328∧(↑size:Int)*(8:Int)≤140737488355328) (0≤size∧size≤size∧size≤140737488355328∧(↑size:Int)*(8:Int)≤140737488355328) (by simp only[Int.ofNat_le,icLe,ciLe])
    (fun ab=> .i ((ws.length+1)*(80:Nat)≤140737488355328) (fun ac=> .k (ws.length=(List.map encView ws).length) (True) (by simp only[List.length_map])
    (fun a6=>have ad:=wI64' ((↑i:Int)+(1:Int));have ar:List.take (↑size:Int).toNat (List.replicate (↑size:Int).toNat (AV.int IntKind.i64 (0:Int)))=List.replicate (↑size:Int).toNat (AV.int IntKind.i64 (0:Int)):=List.take_of_length_le (by simp); .A (St.mk [(0,.int .i64 (↑id:Int)),(1,.int .i64 (↑size:Int)),(6,.ref
    (.head 6 0) 0 0),(8,.ref (.head 8 0) 0 0),(9,.int .i64 (IntKind.i64.wrap ((↑i:Int)+1)))] [(.head 6 0,.box
    (.agg [.int .i64 0,.int .i64 0,.int .i64 0,.int .i64 0,.int .i64 0,.nils,.nils]) true),(.head 8 0,.box
    (.agg [.int .i64 (↑id:Int),.int .i64 (↑size:Int),.int .i64 0,.int .i64 0,.int .i64 quota,.nils,.sref (.head 8 1) 0 (ws.length+1)]) true),
    (.head 8 1,.row 5 (List.map encView ws++[.agg [.int .i64 (↑i:Int),.int .i64 1,.str [(42:UInt8)],.tree [],.tree (List.take (↑size:Int).toNat (List.replicate (↑size:Int).toNat
    (.int .i64 0)))]]) true true)]) (by simp[encI,encView,ad]) (again ((i+(1:Nat),ws++[View.mk (↑i:Int) (1:Int) [(42:UInt8)] [] (List.replicate (↑size:Int).toNat (0:Int))])) ⟨(by dsimp only;omega),⟨(by dsimp only;omega),⟨(by dsimp only;(clear again;(simp;omega))),(by dsimp only;(clear again;(rw[Nat.add_sub_cancel,newV_yes (by omega) (by omega),←i4];simp;done)))⟩⟩⟩ (by dsimp only;omega)))
    (fun a6=>(a6 trivial).elim)) (fun ac=>False.elim (by omega))) (fun ab=>False.elim (by omega))) (.b
    (.k (0≤(↑size:Int)∧(↑size:Int)≤(↑size:Int)∧(↑size:Int)≤140737488355328∧(↑size:Int)*(8:Int)≤140737488355328) (0≤size∧size≤size∧size≤140737488355328∧(↑size:Int)*(8:Int)≤140737488355328) (by simp only[Int.ofNat_le,icLe,ciLe])
    (fun ae=> .i ((ws.length+1)*(80:Nat)≤140737488355328) (fun af=> .k (ws.length=(List.map encView ws).length) (True) (by simp only[List.length_map])
    (fun a7=>have ag:=wI64' ((↑i:Int)+(1:Int));have au:List.take (↑size:Int).toNat (List.replicate (↑size:Int).toNat (AV.int IntKind.i64 (0:Int)))=List.replicate (↑size:Int).toNat (AV.int IntKind.i64 (0:Int)):=List.take_of_length_le (by simp); .A (St.mk [(0,.int .i64 (↑id:Int)),(1,.int .i64 (↑size:Int)),(6,.ref
    (.head 6 0) 0 0),(8,.ref (.head 8 0) 0 0),(9,.int .i64 (IntKind.i64.wrap ((↑i:Int)+1)))] [(.head 6 0,.box
    (.agg [.int .i64 0,.int .i64 0,.int .i64 0,.int .i64 0,.int .i64 0,.nils,.nils]) true),(.head 8 0,.box
    (.agg [.int .i64 (↑id:Int),.int .i64 (↑size:Int),.int .i64 0,.int .i64 0,.int .i64 quota,.nils,.sref (.head 8 1) 0 (ws.length+1)]) true),
    (.head 8 1,.row 5 (List.map encView ws++[.agg [.int .i64 (↑i:Int),.int .i64 1,.str [(42:UInt8)],.tree [],.tree (List.take (↑size:Int).toNat (List.replicate (↑size:Int).toNat
    (.int .i64 0)))]]) true true)]) (by simp[encI,encView,ag]) (again ((i+(1:Nat),ws++[View.mk (↑i:Int) (1:Int) [(42:UInt8)] [] (List.replicate (↑size:Int).toNat (0:Int))])) ⟨(by dsimp only;omega),⟨(by dsimp only;omega),⟨(by dsimp only;(clear again;(simp;omega))),(by dsimp only;(clear again;(rw[Nat.add_sub_cancel,newV_yes (by omega) (by omega),←i4];simp;done)))⟩⟩⟩ (by dsimp only;omega)))
    (fun a7=>(a7 trivial).elim)) (fun af=>False.elim (by omega))) (fun ae=>False.elim (by omega)))
    (.k (0≤(↑size:Int)∧(↑size:Int)≤(↑size:Int)∧(↑size:Int)≤140737488355328∧(↑size:Int)*(8:Int)≤140737488355328) (0≤size∧size≤size∧size≤140737488355328∧(↑size:Int)*(8:Int)≤140737488355328) (by simp only[Int.ofNat_le,icLe,ciLe])
    (fun ah=> .i ((ws.length+1)*(80:Nat)≤140737488355328) (fun ai=> .k (ws.length=(List.map encView ws).length) (True) (by simp only[List.length_map])
    (fun a8=>have aj:=wI64' ((↑i:Int)+(1:Int));have av:List.take (↑size:Int).toNat (List.replicate (↑size:Int).toNat (AV.int IntKind.i64 (0:Int)))=List.replicate (↑size:Int).toNat (AV.int IntKind.i64 (0:Int)):=List.take_of_length_le (by simp); .A (St.mk [(0,.int .i64 (↑id:Int)),(1,.int .i64 (↑size:Int)),(6,.ref
    (.head 6 0) 0 0),(8,.ref (.head 8 0) 0 0),(9,.int .i64 (IntKind.i64.wrap ((↑i:Int)+1)))] [(.head 6 0,.box
    (.agg [.int .i64 0,.int .i64 0,.int .i64 0,.int .i64 0,.int .i64 0,.nils,.nils]) true),(.head 8 0,.box
    (.agg [.int .i64 (↑id:Int),.int .i64 (↑size:Int),.int .i64 0,.int .i64 0,.int .i64 quota,.nils,.sref (.head 8 1) 0 (ws.length+1)]) true),
    (.head 8 1,.row 5 (List.map encView ws++[.agg [.int .i64 (↑i:Int),.int .i64 1,.str [(42:UInt8)],.tree [],.tree (List.take (↑size:Int).toNat (List.replicate (↑size:Int).toNat
    (.int .i64 0)))]]) true true)]) (by simp[encI,encView,aj]) (again ((i+(1:Nat),ws++[View.mk (↑i:Int) (1:Int) [(42:UInt8)] [] (List.replicate (↑size:Int).toNat (0:Int))])) ⟨(by dsimp only;omega),⟨(by dsimp only;omega),⟨(by dsimp only;(clear again;(simp;omega))),(by dsimp only;(clear again;(rw[Nat.add_sub_cancel,newV_yes (by omega) (by omega),←i4];simp;done)))⟩⟩⟩ (by dsimp only;omega)))
    (fun a8=>(a8 trivial).elim)) (fun ai=>False.elim (by omega))) (fun ah=>False.elim (by omega))))) (fun aa=> .i ((ws.length+1)*(80:Nat)≤140737488355328)
    (fun ak=> .k (ws.length=(List.map encView ws).length) (True) (by simp only[List.length_map])
    (fun a9=>have al:=wI64' ((↑i:Int)+(1:Int)); .A (St.mk [(0,.int .i64 (↑id:Int)),(1,.int .i64 (↑size:Int)),(6,.ref (.head 6 0) 0 0),(8,.ref
    (.head 8 0) 0 0),(9,.int .i64 (IntKind.i64.wrap ((↑i:Int)+1)))] [(.head 6 0,.box (.agg [.int .i64 0,.int .i64 0,.int .i64 0,.int .i64 0,.int .i64 0,.nils,.nils]) true),(.head 8 0,.box
    (.agg [.int .i64 (↑id:Int),.int .i64 (↑size:Int),.int .i64 0,.int .i64 0,.int .i64 quota,.nils,.sref (.head 8 1) 0 (ws.length+1)]) true),
    (.head 8 1,.row 5 (List.map encView ws++[.agg [.int .i64 (↑i:Int),.int .i64 0,.str [],.tree [],.tree []]]) true true)]) (by simp[encView,al]) (again ((i+(1:Nat),ws++[View.mk (↑i:Int) (0:Int) [] [] []])) ⟨(by dsimp only;omega),⟨(by dsimp only;omega),⟨(by dsimp only;(clear again;(simp;omega))),(by dsimp only;(clear again;(rw[Nat.add_sub_cancel,newV_no (by omega) (by omega),←i4])))⟩⟩⟩ (by dsimp only;omega)))
    (fun a9=>(a9 trivial).elim)) (fun ak=>False.elim (by omega))))
    (fun a1=>have aw:List.take ws.length (List.map encView ws)=List.map encView ws:=List.take_of_length_le (by simp); .q (Res.mk (AV.tuple [.agg [.int .i64 (↑id:Int),.int .i64 (↑size:Int),.int .i64 0,.int .i64 0,.int .i64 quota,.tree [],.tree (List.take ws.length (List.map encView ws))],.bool true]) [] []) (by(clear again;(rw[show i-1=size by omega]at i4;simp[newRepl,encRepl,←i4,List.take_of_length_le];done)))))
 refine(.k ((↑size:Int)<1) (size<1) (by simp only[icLt]) (fun a2=>False.elim (by omega)) (fun a2=> .eF ((↑size:Int)<1) (by simp only[icLt]) a2
  (.eF ((↑size:Int)<1) (by simp only[icLt]) a2 (.k (5<(↑size:Int)) (5<size) (by simp only[ciLt]) (fun a3=>False.elim (by omega))
  (fun a3=> .eF (5<(↑size:Int)) (by simp only[ciLt]) a3 (.eF (5<(↑size:Int)) (by simp only[ciLt]) a3 (.k ((↑id:Int)<1) (id<1) (by simp only[icLt])
  (fun a0=>False.elim (by omega)) (fun a0=> .eF ((↑id:Int)<1) (by simp only[icLt]) a0 (.eF ((↑id:Int)<1) (by simp only[icLt]) a0 (.eF ((↑id:Int)<1) (by simp only[icLt]) a0
  (.k ((↑size:Int)<(↑id:Int)) (size<id) (by simp only[Int.ofNat_lt]) (fun a4=>False.elim (by omega)) (fun a4=> .eF ((↑size:Int)<(↑id:Int)) (by simp only[Int.ofNat_lt]) a4
  (.eF ((↑size:Int)<(↑id:Int)) (by simp only[Int.ofNat_lt]) a4 (.i (quota<0) (fun a5=>False.elim (by omega)) (fun a5=> .iF a5 (.iF a5 (.i (8<quota)
  (fun am=>False.elim (by omega)) (fun am=> ?_))))))))))))))))))
 refine Sat.pUnroll 5 (St.mk [(0,.int .i64 (↑id:Int)),(1,.int .i64 (↑size:Int)),(6,.ref (.head 6 0) 0 0),(8,.ref (.head 8 0) 0 0),(9,.int .i64 1)] [(.head 6 0,.box
  (.agg [.int .i64 0,.int .i64 0,.int .i64 0,.int .i64 0,.int .i64 0,.nils,.nils]) true),(.head 8 0,.box
  (.agg [.int .i64 (↑id:Int),.int .i64 (↑size:Int),.int .i64 0,.int .i64 0,.int .i64 quota,.nils,.nils]) true)]) (by kernel_rfl) ?_
 refine(.k (1≤(↑size:Int)) (1≤size) (by simp only[ciLe]) (fun an=> .i (1=(↑id:Int)) (fun ao=> .b
  (.k (0≤(↑size:Int)∧(↑size:Int)≤(↑size:Int)∧(↑size:Int)≤140737488355328∧(↑size:Int)*(8:Int)≤140737488355328) (0≤size∧size≤size∧size≤140737488355328∧(↑size:Int)*(8:Int)≤140737488355328) (by simp only[Int.ofNat_le,icLe,ciLe])
  (fun ap=> .T
  (have ax:List.take (↑size:Int).toNat (List.replicate (↑size:Int).toNat (AV.int IntKind.i64 (0:Int)))=List.replicate (↑size:Int).toNat (AV.int IntKind.i64 (0:Int)):=List.take_of_length_le (by simp);Sat.pJoinE (L:=loopD X.cfg (50:FuncId) Proofs.Tryz.f50 0 5) (St.mk [(0,.int .i64 (↑id:Int)),(1,.int .i64 (↑size:Int)),(6,.ref
  (.head 6 0) 0 0),(8,.ref (.head 8 0) 0 0),(9,.int .i64 (IntKind.i64.wrap (1+1)))] [(.head 6 0,.box (.agg [.int .i64 0,.int .i64 0,.int .i64 0,.int .i64 0,.int .i64 0,.nils,.nils]) true),
  (.head 8 0,.box (.agg [.int .i64 (↑id:Int),.int .i64 (↑size:Int),.int .i64 0,.int .i64 0,.int .i64 quota,.nils,.sref (.head 8 1) 0 1]) true),
  (.head 8 1,.row 5 [.agg [.int .i64 1,.int .i64 1,.str [(42:UInt8)],.tree [],.tree (List.take (↑size:Int).toNat (List.replicate (↑size:Int).toNat
  (.int .i64 0)))]] true true)]) (by kernel_rfl) (by simp[encI,encView,List.take_of_length_le,show IntKind.i64.wrap 2=2 from rfl];done) rfl (again_l ((1:Nat)+(1:Nat)) ([View.mk (1:Int) (1:Int) [(42:UInt8)] [] (List.replicate (↑size:Int).toNat (0:Int))]) (by omega) (by omega) (by(clear again_l;(simp;done))) (by(clear again_l;(rw[show(1+1-1:Nat)=1 from rfl,newV_yes (by omega) (by omega)];simp;done))))))
  (fun ap=>False.elim (by omega))) (.b
  (.k (0≤(↑size:Int)∧(↑size:Int)≤(↑size:Int)∧(↑size:Int)≤140737488355328∧(↑size:Int)*(8:Int)≤140737488355328) (0≤size∧size≤size∧size≤140737488355328∧(↑size:Int)*(8:Int)≤140737488355328) (by simp only[Int.ofNat_le,icLe,ciLe])
  (fun aq=> .T
  (have ay:List.take (↑size:Int).toNat (List.replicate (↑size:Int).toNat (AV.int IntKind.i64 (0:Int)))=List.replicate (↑size:Int).toNat (AV.int IntKind.i64 (0:Int)):=List.take_of_length_le (by simp);Sat.pJoinE (L:=loopD X.cfg (50:FuncId) Proofs.Tryz.f50 0 5) (St.mk [(0,.int .i64 (↑id:Int)),(1,.int .i64 (↑size:Int)),(6,.ref
  (.head 6 0) 0 0),(8,.ref (.head 8 0) 0 0),(9,.int .i64 (IntKind.i64.wrap (1+1)))] [(.head 6 0,.box (.agg [.int .i64 0,.int .i64 0,.int .i64 0,.int .i64 0,.int .i64 0,.nils,.nils]) true),
  (.head 8 0,.box (.agg [.int .i64 (↑id:Int),.int .i64 (↑size:Int),.int .i64 0,.int .i64 0,.int .i64 quota,.nils,.sref (.head 8 1) 0 1]) true),
  (.head 8 1,.row 5 [.agg [.int .i64 1,.int .i64 1,.str [(42:UInt8)],.tree [],.tree (List.take (↑size:Int).toNat (List.replicate (↑size:Int).toNat
  (.int .i64 0)))]] true true)]) (by kernel_rfl) (by simp[encI,encView,List.take_of_length_le,show IntKind.i64.wrap 2=2 from rfl];done) rfl (again_l ((1:Nat)+(1:Nat)) ([View.mk (1:Int) (1:Int) [(42:UInt8)] [] (List.replicate (↑size:Int).toNat (0:Int))]) (by omega) (by omega) (by(clear again_l;(simp;done))) (by(clear again_l;(rw[show(1+1-1:Nat)=1 from rfl,newV_yes (by omega) (by omega)];simp;done))))))
  (fun aq=>False.elim (by omega)))
  (.k (0≤(↑size:Int)∧(↑size:Int)≤(↑size:Int)∧(↑size:Int)≤140737488355328∧(↑size:Int)*(8:Int)≤140737488355328) (0≤size∧size≤size∧size≤140737488355328∧(↑size:Int)*(8:Int)≤140737488355328) (by simp only[Int.ofNat_le,icLe,ciLe])
  (fun a1=> .T
  (have az:List.take (↑size:Int).toNat (List.replicate (↑size:Int).toNat (AV.int IntKind.i64 (0:Int)))=List.replicate (↑size:Int).toNat (AV.int IntKind.i64 (0:Int)):=List.take_of_length_le (by simp);Sat.pJoinE (L:=loopD X.cfg (50:FuncId) Proofs.Tryz.f50 0 5) (St.mk [(0,.int .i64 (↑id:Int)),(1,.int .i64 (↑size:Int)),(6,.ref
  (.head 6 0) 0 0),(8,.ref (.head 8 0) 0 0),(9,.int .i64 (IntKind.i64.wrap (1+1)))] [(.head 6 0,.box (.agg [.int .i64 0,.int .i64 0,.int .i64 0,.int .i64 0,.int .i64 0,.nils,.nils]) true),
  (.head 8 0,.box (.agg [.int .i64 (↑id:Int),.int .i64 (↑size:Int),.int .i64 0,.int .i64 0,.int .i64 quota,.nils,.sref (.head 8 1) 0 1]) true),
  (.head 8 1,.row 5 [.agg [.int .i64 1,.int .i64 1,.str [(42:UInt8)],.tree [],.tree (List.take (↑size:Int).toNat (List.replicate (↑size:Int).toNat
  (.int .i64 0)))]] true true)]) (by kernel_rfl) (by simp[encI,encView,List.take_of_length_le,show IntKind.i64.wrap 2=2 from rfl];done) rfl (again_l ((1:Nat)+(1:Nat)) ([View.mk (1:Int) (1:Int) [(42:UInt8)] [] (List.replicate (↑size:Int).toNat (0:Int))]) (by omega) (by omega) (by(clear again_l;(simp;done))) (by(clear again_l;(rw[show(1+1-1:Nat)=1 from rfl,newV_yes (by omega) (by omega)];simp;done))))))
  (fun a1=>False.elim (by omega))))) (fun ao=> .T (Sat.pJoinE (L:=loopD X.cfg (50:FuncId) Proofs.Tryz.f50 0 5) (St.mk [(0,.int .i64 (↑id:Int)),(1,.int .i64 (↑size:Int)),(6,.ref
  (.head 6 0) 0 0),(8,.ref (.head 8 0) 0 0),(9,.int .i64 (IntKind.i64.wrap (1+1)))] [(.head 6 0,.box (.agg [.int .i64 0,.int .i64 0,.int .i64 0,.int .i64 0,.int .i64 0,.nils,.nils]) true),
  (.head 8 0,.box (.agg [.int .i64 (↑id:Int),.int .i64 (↑size:Int),.int .i64 0,.int .i64 0,.int .i64 quota,.nils,.sref (.head 8 1) 0 1]) true),
  (.head 8 1,.row 5 [.agg [.int .i64 1,.int .i64 0,.str [],.tree [],.tree []]] true true)]) (by kernel_rfl) rfl rfl (again_l ((1:Nat)+(1:Nat)) ([View.mk (1:Int) (0:Int) [] [] []]) (by omega) (by omega) (by(clear again_l;(simp;done))) (by(clear again_l;(rw[show(1+1-1:Nat)=1 from rfl,newV_no (by omega) (by omega)];rfl)))))))
  (fun an=>False.elim (by omega)))
end Go.Ab.Tryz
