/- Package cardamomref11: what may be told, what is known, as plain Lean. -/
import Derived.Test.YtmhceknpmokahaaGreatDoorRef11a
import Derived.Test.YtmhceknpmokahaaGreatDoorRef1f
namespace Go.Ab.Tryz
open Go
set_option maxRecDepth 100000
set_option maxHeartbeats 4000000
def epOk (e:Int):Bool:=decide (0≤e∧e≤1000000)
theorem all_take {T:Type} {l:List T} {k:Nat} {x:T} {f:T→Bool} (h:l[k]? =some x) (hs:(l.take k).all f=true) (hx:f x=true):(l.take (k+1)).all f=true:=by
 rw[take_succ h,List.all_append,hs];simp[hx]
theorem c242 (v:View) (size:Int) (h1:v.Filter.length≤100000) (h2:v.Seen.length≤100000) (h3:v.Epochs.length≤100000) (h4:size≤100):X.call 242 [encView v,.int .i64 size] [] ⟨.bool (v.may parse size),[],[]⟩:=by
 refine spec_of ok Go.Proofs.Tryz.func242 ok242 ?_
 refine(.i (v.R<1) (fun _h7=> .it _h7 (.it _h7 (.it _h7 (.it _h7 (.T (.T (.T (.T (.T (.T (.T (.T (.T (.q (Res.mk
  (.bool false) [] []) (by(rw[show View.may parse size v=false from if_neg (by omega)])))))))))))))))) (fun _h7=> .iF _h7 (.iF _h7 (.iF _h7 (.iF _h7 (.i (size<v.R) (fun _h8=> .it _h8 (.it _h8
  (.it _h8 (.T (.T (.T (.T (.T (.q (Res.mk (.bool false) [] []) (by(rw[show View.may parse size v=false from if_neg (by omega)]))))))))))) (fun _h8=> .iF _h8 (.iF _h8 (.iF _h8 (.i (v.Rev<0)
  (fun _h9=> .it _h9 (.it _h9 (.it _h9 (.T (.q (Res.mk (.bool false) [] []) (by(rw[show View.may parse size v=false from if_neg (by omega)]))))))) (fun _h9=> .iF _h9 (.iF _h9 (.iF _h9
  (.i (1000000<v.Rev) (fun a6=> .q (Res.mk (.bool false) [] []) (by(rw[show View.may parse size v=false from if_neg (by omega)]))) (fun a6=> .i (v.Rev=0) (fun a7=> .i (v.Filter= [])
  (fun a2=> .it a2 (.it a2 (.it a2 (.it a2 (.k ((↑(List.map encHead v.Seen).length:Int)=0) (v.Seen.length=0) (by simp only[List.length_map,icEq])
  (fun a3=> .et ((↑(List.map encHead v.Seen).length:Int)=0) (by simp only[List.length_map,icEq]) a3
  (.et ((↑(List.map encHead v.Seen).length:Int)=0) (by simp only[List.length_map,icEq]) a3 (.et ((↑(List.map encHead v.Seen).length:Int)=0) (by simp only[List.length_map,icEq]) a3
  (.et ((↑(List.map encHead v.Seen).length:Int)=0) (by simp only[List.length_map,icEq]) a3 (.q (Res.mk
  (.bool (decide ((↑(List.map encI v.Epochs).length:Int)=0))) [] []) (by(simp_all[View.may];done)))))))
  (fun a3=> .eF ((↑(List.map encHead v.Seen).length:Int)=0) (by simp only[List.length_map,icEq]) a3
  (.eF ((↑(List.map encHead v.Seen).length:Int)=0) (by simp only[List.length_map,icEq]) a3 (.eF ((↑(List.map encHead v.Seen).length:Int)=0) (by simp only[List.length_map,icEq]) a3
  (.eF ((↑(List.map encHead v.Seen).length:Int)=0) (by simp only[List.length_map,icEq]) a3 (.q (Res.mk (.bool false) [] []) (by(simp_all[View.may];done)))))))))))) (fun a2=> .iF a2
  (.iF a2 (.iF a2 (.iF a2 (.F (.F (.F (.F (.F (.q (Res.mk (.bool false) [] []) (by(simp[View.may, *];done))))))))))))) (fun a7=> .c (@Tryz.c31 (v.Filter) ‹_›) (.m ((parse v.Filter).snd.snd)
  (fun a4=> .y a4 (.y a4 (.y a4 (.y a4 (.T (.T (.T (.T (.T (.T (.T (.q (Res.mk (.bool false) [] []) (by(simp[View.may, *];done)))))))))))))) (fun a4=> .x a4 (.x a4
  (.c (@Tryz.c257 (v.Seen) ‹_›) (.x a4 (.x a4 (.m (headsMay 0 v.Seen) (fun a1=> .y a1 (.y a1 (.y a1 (.y a1 (.y a1 (.T (.q (Res.mk
  (.bool false) [] []) (by(simp[View.may, *];done))))))))) (fun a1=> .x a1 (.x a1 (.x a1 (.x a1 (.x a1
  (.l ((↑(List.map encI v.Epochs).length:Int)=size) ((↑v.Epochs.length:Int)=size) (by simp only[List.length_map]) (fun a8=> .q (Res.mk (.bool false) [] []) (by(simp[View.may, *];done)))
  (fun a8=> ?_))))))))))))))))))))))))))))))
 have e0:View.may parse size v=v.Epochs.all epOk:=by
  unfold View.may
  rw[if_pos ⟨by omega,by omega,by omega,by omega⟩,if_neg (by omega)]
  simp only[*,decide_true,Bool.true_and];rfl
 rw[e0]
 refine Sat.pLoop 9 (St.mk [(1,.int .i64 size),(2,.ref (.head 2 0) 0 0),(8,.int .i64 0)] [(.head 2 0,.box (encView v) true)]) (by kernel_rfl) (fun(k:Nat)=>⟨[(1,.int .i64 size),(2,.ref
  (.head 2 0) 0 0),(8,.int .i64 k)],[(.head 2 0,.box (encView v) true)]⟩) (fun k=>k≤v.Epochs.length∧(v.Epochs.take k).all epOk=true) (fun k=>v.Epochs.length-k) 0 rfl ?_ ?_
 ·simp
 ·intro k hI again
  have hk:=hI.1
  have hs:=hI.2
  clear hI
  refine(.i ((↑k:Int)<size) (fun a9=> .T (.em encI v.Epochs k (by omega) (fun a5 aa=> .i (a5<0) (fun a0=> .it a0 (.it a0 (.it a0 (.it a0 (.it a0 (.it a0 (.T (.q (Res.mk
   (.bool false) [] []) (by(clear again;(rw[all_false ‹_› (by simp[epOk];omega)]))))))))))) (fun a0=> .iF a0 (.iF a0 (.iF a0 (.T (.eh encI aa (.iF a0 (.iF a0 (.iF a0
   (.i (1000000<a5) (fun ab=> .q (Res.mk (.bool false) [] []) (by(clear again;(rw[all_false ‹_› (by simp[epOk];omega)]))))
   (fun ab=>have ac:=wI64' ((↑k:Int)+(1:Int)); .A (St.mk [(1,.int .i64 size),(2,.ref
   (.head 2 0) 0 0),(8,.int .i64 (IntKind.i64.wrap ((↑k:Int)+1)))] [(.head 2 0,.box (encView v) true)]) (by simp[encView,ac]) (again (k+(1:Nat)) ⟨(by omega),(by(clear again;(refine all_take ‹_› hs ?_;simp[epOk];omega)))⟩ (by omega)))))))))))))))
   (fun a9=> .q (Res.mk (.bool true) [] []) (by(clear again;(rw[List.take_of_length_le (by omega)]at hs;rw[hs])))))
theorem known_no {r:Repl} {v:Version} {w:View} {i:Nat} (h:r.Views[i]? =some w) (hw:w.knows r.Size.toNat (ownOf r.ID r.Views).Epochs v=false):r.known parse v=false:=by
 unfold Repl.known;rw[all_false h hw,Bool.false_and]
theorem c21 (r:Repl) (v:Version) (h0:0≤r.Size) (h1:r.Size≤100) (hl:r.Views.length≤1000) (hw:∀w∈r.Views,w.Seen.length≤100000∧w.Filter.length≤100000) (ha:v.Attrs.length≤100000) (ht:v.Tag.length≤100000):X.call 21 [encRepl r,encVersion v] [] ⟨.bool (r.known parse v),[],[]⟩:=by
 obtain⟨n,hn⟩:=Int.eq_ofNat_of_zero_le h0
 have hn2:r.Size.toNat=n:=by omega
 refine spec_of ok Go.Proofs.Tryz.func21 ok21 ?_
 refine(.c (@Tryz.c30 (r) ‹_›) ?_)
 refine Sat.pLoop 4 (St.mk [(2,.ref (.head 2 0) 0 0),(3,.ref
  (.head 3 0) 0 0),(5,.bool false),(6,.tree (List.map encI (ownOf r.ID r.Views).Epochs)),(7,.int .i64 0)] [(.head 2 0,.box (encRepl r) true),
  (.head 3 0,.box (encVersion v) true)]) (by kernel_rfl) (fun(p:Nat×Bool)=>⟨[(2,.ref (.head 2 0) 0 0),(3,.ref
  (.head 3 0) 0 0),(5,.bool p.2),(6,.tree ((ownOf r.ID r.Views).Epochs.map encI)),(7,.int .i64 p.1)],[(.head 2 0,.box (encRepl r) true),
  (.head 3 0,.box (encVersion v) true)]⟩) (fun p=>p.1≤r.Views.length∧(r.Views.take p.1).all (fun w=>w.knows r.Size.toNat (ownOf r.ID r.Views).Epochs v)=true∧p.2=(r.Views.take p.1).any fun w=>(parse w.Filter).1.lets v) (fun p=>r.Views.length-p.1) (0,false) rfl ?_ ?_
 ·exact⟨by simp,by simp,by simp⟩
 ·rintro⟨i,kept⟩ hI again
  obtain⟨hi,hs,hk⟩:=hI
  simp only at hi hs hk
  refine(.kl encView r.Views i (fun a5=> .T (.em encView r.Views i ‹_›
   (fun a0 a4=>have af:=(hw a0 (List.mem_of_getElem? a4)).1;have ag:=(hw a0 (List.mem_of_getElem? a4)).2; .i (a0.Rev=0) (fun a1=> .it a1 (.it a1 (.it a1 (.it a1
   (.it a1 (.it a1 (.it a1 (.it a1 (.it a1 (.T (.q (Res.mk (.bool false) [] []) (by(clear again;(rw[known_no ‹_› (knows_rev ‹_›)])))))))))))))) (fun a1=> .iF a1 (.iF a1 (.iF a1
   (.iF a1 (.iF a1 (.iF a1 (.c (@Tryz.c29 (a0.Seen) (v.Item) ‹_›) (.iF a1 (.c (@Tryz.c28 (headAt a0.Seen v.Item) (v.S)) (.iF a1 (.iF a1 (.i ((headAt a0.Seen v.Item).cmp v.S<0)
   (fun a6=> .q (Res.mk (.bool false) [] []) (by(clear again;(rw[known_no ‹_› (knows_cmp ‹_›)]))))
   (fun a6=> .k ((↑(List.map encI a0.Epochs).length:Int)<r.Size) ((↑a0.Epochs.length:Int)<r.Size) (by simp only[List.length_map])
   (fun a2=> .et ((↑(List.map encI a0.Epochs).length:Int)<r.Size) (by simp only[List.length_map]) a2
   (.et ((↑(List.map encI a0.Epochs).length:Int)<r.Size) (by simp only[List.length_map]) a2 (.et ((↑(List.map encI a0.Epochs).length:Int)<r.Size) (by simp only[List.length_map]) a2
   (.et ((↑(List.map encI a0.Epochs).length:Int)<r.Size) (by simp only[List.length_map]) a2 (.et ((↑(List.map encI a0.Epochs).length:Int)<r.Size) (by simp only[List.length_map]) a2 (.T
   (.q (Res.mk (.bool false) [] []) (by(clear again;(rw[known_no ‹_› (knows_len (by omega))]))))))))))
   (fun a2=> .eF ((↑(List.map encI a0.Epochs).length:Int)<r.Size) (by simp only[List.length_map]) a2
   (.eF ((↑(List.map encI a0.Epochs).length:Int)<r.Size) (by simp only[List.length_map]) a2 (.eF ((↑(List.map encI a0.Epochs).length:Int)<r.Size) (by simp only[List.length_map]) a2
   (.eF ((↑(List.map encI a0.Epochs).length:Int)<r.Size) (by simp only[List.length_map]) a2 (.eF ((↑(List.map encI a0.Epochs).length:Int)<r.Size) (by simp only[List.length_map]) a2
   (.k ((↑(List.map encI (ownOf r.ID r.Views).Epochs).length:Int)<r.Size) ((↑(ownOf r.ID r.Views).Epochs.length:Int)<r.Size) (by simp only[List.length_map]) (fun a7=> .q (Res.mk
   (.bool false) [] []) (by(clear again;(rw[known_no ‹_› (knows_len (by omega))])))) (fun a7=> ?_))))))))))))))))))))))) (fun a5=> .q (Res.mk
   (.bool kept) [] []) (by(clear again;(rw[List.take_of_length_le (by omega)]at hs hk;rw[hk];unfold Repl.known;rw[hs];rfl)))))
  obtain⟨w,hw'⟩:∃w,r.Views[i]? =some w:=⟨r.Views[i],by simp⟩
  have ew:a0=w:=by rw[hw']at a4;exact(Option.some.inj a4).symm
  subst ew
  have p1:=parse_ok a0.Filter
  have p2:=parse_short a0.Filter
  have hwl:=hw _ (List.mem_of_getElem? hw')
  refine Sat.pLoop 12 (St.mk [(2,.ref (.head 2 0) 0 0),(3,.ref (.head 3 0) 0 0),(5,.bool kept),(6,.tree (List.map encI (ownOf r.ID r.Views).Epochs)),(7,.int .i64 (↑i:Int)),(8,.ref
   (.head 8 0) 0 0),(9,.int .i64 0)] [(.head 2 0,.box (encRepl r) true),(.head 3 0,.box (encVersion v) true),(.head 8 0,.box (encView a0) true)]) (by kernel_rfl) (fun(k:Nat)=>⟨[(2,.ref
   (.head 2 0) 0 0),(3,.ref (.head 3 0) 0 0),(5,.bool kept),(6,.tree ((ownOf r.ID r.Views).Epochs.map encI)),(7,.int .i64 i),(8,.ref
   (.head 8 0) 0 0),(9,.int .i64 k)],[(.head 2 0,.box (encRepl r) true),(.head 3 0,.box (encVersion v) true),
   (.head 8 0,.box (encView a0) true)]⟩) (fun k=>k≤n∧epsIn a0.Epochs (ownOf r.ID r.Views).Epochs k=true) (fun k=>n-k) 0 rfl ?_ ?_
  ·exact⟨by omega,rfl⟩
  ·intro k hI2 again2
   have hk1:=hI2.1
   have hk2:=hI2.2
   clear hI2
   refine(.i ((↑k:Int)<r.Size) (fun a8=> .T (.em encI a0.Epochs k (by omega) (fun a9 ah=> .T (.em encI ((ownOf r.ID r.Views).Epochs) k (by omega) (fun aa ai=> .i (a9<aa)
    (fun ab=> .q (Res.mk (.bool false) [] []) (by(clear again again2;(rw[known_no ‹_› (knows_ep ‹_› ‹_› (by omega) ‹_›)]))))
    (fun ab=>have ac:=wI64' ((↑k:Int)+(1:Int)); .A (St.mk [(2,.ref (.head 2 0) 0 0),(3,.ref
    (.head 3 0) 0 0),(5,.bool kept),(6,.tree (List.map encI (ownOf r.ID r.Views).Epochs)),(7,.int .i64 (↑i:Int)),(8,.ref
    (.head 8 0) 0 0),(9,.int .i64 (IntKind.i64.wrap ((↑k:Int)+1)))] [(.head 2 0,.box (encRepl r) true),(.head 3 0,.box (encVersion v) true),
    (.head 8 0,.box (encView a0) true)]) (by simp[encVersion,encView,encRepl,ac]) (again2 (k+(1:Nat)) ⟨(by omega),(by(clear again again2;(rw[epsIn_succ];simp[*,List.getD];done)))⟩ (by omega))))))))
    (fun a8=> .c (@Tryz.c31 (a0.Filter) ‹_›) (.n kept (fun a3=> .t a3 (.t a3 (.t a3 (have ad:=wI64' ((↑i:Int)+(1:Int)); .A (St.mk [(2,.ref (.head 2 0) 0 0),(3,.ref
    (.head 3 0) 0 0),(5,.bool true),(6,.tree (List.map encI (ownOf r.ID r.Views).Epochs)),(7,.int .i64 (IntKind.i64.wrap ((↑i:Int)+1)))] [(.head 2 0,.box (encRepl r) true),
    (.head 3 0,.box (encVersion v) true)]) (by simp[encVersion,encRepl,ad]) (again ((i+(1:Nat),Bool.true)) ⟨(by dsimp only;omega),⟨(by dsimp only;(clear again again2;(refine all_take ‹_› hs (knows_yes ‹_› ‹_› (by omega) ?_);rw[hn2,show n=k by omega];assumption))),(by dsimp only;(clear again again2;(rw[take_succ ‹_›,List.any_append,←hk,(by assumption:kept=true)];rfl)))⟩⟩ (by dsimp only;omega))))))
    (fun a3=> .f a3 (.f a3 (.c (@Tryz.c32 (v) ‹_› ‹_› ((parse a0.Filter).fst) ‹_› ‹_›) (.f a3 (have ae:=wI64' ((↑i:Int)+(1:Int)); .A (St.mk [(2,.ref (.head 2 0) 0 0),(3,.ref
    (.head 3 0) 0 0),(5,.bool (Flt.lets v (parse a0.Filter).fst)),(6,.tree (List.map encI (ownOf r.ID r.Views).Epochs)),(7,.int .i64 (IntKind.i64.wrap ((↑i:Int)+1)))] [(.head 2 0,.box (encRepl r) true),
    (.head 3 0,.box (encVersion v) true)]) (by simp[encVersion,encRepl,ae]) (again ((i+(1:Nat),Flt.lets v (parse a0.Filter).fst)) ⟨(by dsimp only;omega),⟨(by dsimp only;(clear again again2;(refine all_take ‹_› hs (knows_yes ‹_› ‹_› (by omega) ?_);rw[hn2,show n=k by omega];assumption))),(by dsimp only;(clear again again2;(rw[take_succ ‹_›,List.any_append,←hk,(by assumption:kept=false)];simp)))⟩⟩ (by dsimp only;omega))))))))))
end Go.Ab.Tryz
