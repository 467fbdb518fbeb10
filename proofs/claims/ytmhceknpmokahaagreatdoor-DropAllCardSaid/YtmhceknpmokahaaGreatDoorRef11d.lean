/- Package cardamomref11: what need not be held, what may be told, as plain Lean. -/
import Derived.Test.YtmhceknpmokahaaGreatDoorRef11c
namespace Go.Ab.Tryz
open Go
set_option maxRecDepth 100000
set_option maxHeartbeats 4000000
theorem filter_at {T:Type} {l:List T} {k:Nat} {x:T} {f:T→Bool} (h:l[k]? =some x) (hf:f x=true):(l.take (k+1)).filter f=(l.take k).filter f++[x]:=by
 rw[take_succ h,List.filter_append];simp[hf]
theorem filter_no {T:Type} {l:List T} {k:Nat} {x:T} {f:T→Bool} (h:l[k]? =some x) (hf:f x=false):(l.take (k+1)).filter f=(l.take k).filter f:=by
 rw[take_succ h,List.filter_append];simp[hf]
theorem c24 (r:Repl) (h0:0≤r.Size) (h1:r.Size≤100) (hl:r.Views.length≤1000) (hw:∀w∈r.Views,w.Seen.length≤100000∧w.Filter.length≤100000) (ho:(ownOf r.ID r.Views).Filter.length≤100000) (hh:r.Held.length≤1000) (hv:∀v∈r.Held,v.Attrs.length≤100000∧v.Tag.length≤100000):X.call 24 [encRepl r] [] ⟨encRepl (r.sweep parse),[],[]⟩:=by
 have p1:=parse_ok (ownOf r.ID r.Views).Filter
 have p2:=parse_short (ownOf r.ID r.Views).Filter
 refine spec_of ok Go.Proofs.Tryz.func24 ok24 ?_
 refine(.c (@Tryz.c26 (r) ‹_› ‹_›) ?_)
 refine Sat.pLoop 4 (St.mk [(1,.ref (.head 1 0) 0 0),(2,.ref (.head 2 0) 0 0),(3,.ref (.head 3 0) 0 0),(4,.sref (.head 4 0) 0 0),(5,.int .i64 0)] [(.head 1 0,.box (encRepl r) true),
  (.head 2 0,.box (.agg [.int .i64 0,.int .i64 0,.int .i64 0,.int .i64 0,.int .i64 0,.nils,.nils]) true),(.head 3 0,.box (encFlt (Repl.flt parse r)) true),
  (.head 4 0,.row 8 [] true true)]) (by kernel_rfl) (fun(p:Nat×List Version)=>⟨[(1,.ref (.head 1 0) 0 0),(2,.ref (.head 2 0) 0 0),(3,.ref (.head 3 0) 0 0),(4,.sref
  (.head 4 0) 0 p.2.length),(5,.int .i64 p.1)],[(.head 1 0,.box (encRepl r) true),(.head 2 0,.box (.agg [.int .i64 0,.int .i64 0,.int .i64 0,.int .i64 0,.int .i64 0,.nils,.nils]) true),
  (.head 3 0,.box (encFlt (r.flt parse)) true),
  (.head 4 0,.row 8 (p.2.map encVersion) true true)]⟩) (fun p=>p.1≤r.Held.length∧p.2.length≤p.1∧p.2=(r.Held.take p.1).filter fun v=>(r.flt parse).lets v|| !r.known parse v) (fun p=>r.Held.length-p.1) (0,[]) rfl ?_ ?_
 ·exact⟨by simp,by simp,by simp⟩
 ·rintro⟨k,acc⟩ hI again
  obtain⟨hk,ha,hs⟩:=hI
  simp only at hk ha hs
  refine(.kl encVersion r.Held k (fun a5=> .T (.em encVersion r.Held k ‹_›
   (fun a1 a2=>have ac:=(hv a1 (List.mem_of_getElem? a2)).1;have ad:=(hv a1 (List.mem_of_getElem? a2)).2; .c (@Tryz.c32 (a1) ‹_› ‹_› (Repl.flt parse r) ‹_› ‹_›)
   (.n (Flt.lets a1 (Repl.flt parse r)) (fun a0=> .t a0 (.t a0 (.t a0 (.t a0 (.t a0 (.t a0 (.t a0 (.t a0 (.T (.T (.eh encVersion a2
   (.i ((acc.length+1)*(96:Nat)≤140737488355328) (fun a6=> .k (acc.length=(List.map encVersion acc).length) (True) (by simp only[List.length_map])
   (fun a3=>have a7:=wI64' ((↑k:Int)+(1:Int)); .A (St.mk [(1,.ref (.head 1 0) 0 0),(2,.ref (.head 2 0) 0 0),(3,.ref (.head 3 0) 0 0),(4,.sref
   (.head 4 0) 0 (acc.length+1)),(5,.int .i64 (IntKind.i64.wrap ((↑k:Int)+1)))] [(.head 1 0,.box (encRepl r) true),(.head 2 0,.box
   (.agg [.int .i64 0,.int .i64 0,.int .i64 0,.int .i64 0,.int .i64 0,.nils,.nils]) true),(.head 3 0,.box (encFlt (Repl.flt parse r)) true),
   (.head 4 0,.row 8 (List.map encVersion acc++[encVersion a1]) true true)]) (by simp[encFlt,encRepl,a7]) (again ((k+(1:Nat),acc++[a1])) ⟨(by dsimp only;omega),⟨(by dsimp only;(clear again;(simp;omega))),(by dsimp only;(clear again;(rw[filter_at ‹_› (by simp[*]),←hs])))⟩⟩ (by dsimp only;omega)))
   (fun a3=>(a3 trivial).elim)) (fun a6=>False.elim (by omega)))))))))))))) (fun a0=> .f a0 (.f a0 (.f a0 (.f a0 (.T (.eh encVersion a2 (.f a0 (.f a0
   (.c (@Tryz.c21 (r) (a1) ‹_› ‹_› ‹_› ‹_› ‹_› ‹_›) (.f a0 (.f a0 (.m (Repl.known parse r a1) (fun a8=> .T (.eh encVersion a2 (.i ((acc.length+1)*(96:Nat)≤140737488355328)
   (fun a9=> .k (acc.length=(List.map encVersion acc).length) (True) (by simp only[List.length_map]) (fun a4=>have aa:=wI64' ((↑k:Int)+(1:Int)); .A (St.mk [(1,.ref
   (.head 1 0) 0 0),(2,.ref (.head 2 0) 0 0),(3,.ref (.head 3 0) 0 0),(4,.sref
   (.head 4 0) 0 (acc.length+1)),(5,.int .i64 (IntKind.i64.wrap ((↑k:Int)+1)))] [(.head 1 0,.box (encRepl r) true),(.head 2 0,.box
   (.agg [.int .i64 0,.int .i64 0,.int .i64 0,.int .i64 0,.int .i64 0,.nils,.nils]) true),(.head 3 0,.box (encFlt (Repl.flt parse r)) true),
   (.head 4 0,.row 8 (List.map encVersion acc++[encVersion a1]) true true)]) (by simp[encFlt,encRepl,aa]) (again ((k+(1:Nat),acc++[a1])) ⟨(by dsimp only;omega),⟨(by dsimp only;(clear again;(simp;omega))),(by dsimp only;(clear again;(rw[filter_at ‹_› (by simp[*]),←hs])))⟩⟩ (by dsimp only;omega)))
   (fun a4=>(a4 trivial).elim)) (fun a9=>False.elim (by omega))))) (fun a8=>have ab:=wI64' ((↑k:Int)+(1:Int)); .A (St.mk [(1,.ref (.head 1 0) 0 0),(2,.ref
   (.head 2 0) 0 0),(3,.ref (.head 3 0) 0 0),(4,.sref (.head 4 0) 0 acc.length),(5,.int .i64 (IntKind.i64.wrap ((↑k:Int)+1)))] [(.head 1 0,.box (encRepl r) true),(.head 2 0,.box
   (.agg [.int .i64 0,.int .i64 0,.int .i64 0,.int .i64 0,.int .i64 0,.nils,.nils]) true),(.head 3 0,.box (encFlt (Repl.flt parse r)) true),
   (.head 4 0,.row 8 (List.map encVersion acc) true true)]) (by simp[encFlt,encRepl,ab]) (again ((k+(1:Nat),acc)) ⟨(by dsimp only;omega),⟨(by dsimp only;omega),(by dsimp only;(clear again;(rw[filter_no ‹_› (by simp[*]),←hs])))⟩⟩ (by dsimp only;omega)))))))))))))))))))
   (fun a5=>have ae:List.take acc.length (List.map encVersion acc)=List.map encVersion acc:=List.take_of_length_le (by simp); .q (Res.mk
   (.agg [.int .i64 r.ID,.int .i64 r.Size,.int .i64 r.L,.int .i64 r.N,.int .i64 r.Quota,.tree (List.take acc.length (List.map encVersion acc)),.tree (List.map encView r.Views)]) [] []) (by(clear again;(rw[List.take_of_length_le (by omega)]at hs;simp[Repl.sweep,encRepl,←hs,List.take_of_length_le];done)))))
def lastR (l:List View):Nat→Int
 | 0=>0
 |k+1=>((l[k]?).map View.R).getD 0
def lastS (l:List Version):Nat→Option Stamp
 | 0=>none
 |k+1=>(l[k]?).map Version.S
theorem may_pos {P:Prs} {size:Int} {v:View} (h:v.may P size=true):1≤v.R:=by
 unfold View.may at h
 split at h
 ·omega
 ·cases h
theorem views_step {size:Int} {l:List View} {k:Nat} {x:View} (h:l[k]? =some x) (hs:viewsMay parse size 0 l=viewsMay parse size (lastR l k) (l.drop k)) (hm:x.may parse size=true) (hr:1≤x.Rev∧lastR l k<x.R):viewsMay parse size 0 l=viewsMay parse size (lastR l (k+1)) (l.drop (k+1)):=by
 have e:lastR l (k+1)=x.R:=by simp[lastR,h]
 rw[hs,drop_at h,e]
 simp only[viewsMay,hm,decide_eq_true hr,Bool.true_and]
theorem views_step0 {size:Int} {l:List View} {k:Nat} {x:View} (h:l[k]? =some x) (h0:¬0<k) (hs:viewsMay parse size 0 l=viewsMay parse size (lastR l k) (l.drop k)) (hm:x.may parse size=true) (hr:¬x.Rev<1):viewsMay parse size 0 l=viewsMay parse size (lastR l (k+1)) (l.drop (k+1)):=by
 have e:k=0:=by omega
 subst e
 have:=may_pos hm
 exact views_step h hs hm ⟨by omega,by simp[lastR];omega⟩
theorem lastR_pos {size:Int} {l:List View} {k:Nat} {x:View} (h:l[k]? =some x) (hm:x.may parse size=true):0≤lastR l (k+1):=by
 have:=may_pos hm
 simp[lastR,h];omega
theorem c211 (g:Gossip) (size:Int) (h4:size≤100) (h1:g.Views.length≤100000) (h2:g.Batch.length≤100000) (hw:∀v∈g.Views,v.Filter.length≤100000∧v.Seen.length≤100000∧v.Epochs.length≤100000) (hv:∀v∈g.Batch,v.Attrs.length≤100000∧v.Tag.length≤100000∧v.Body.length≤100000):X.call 211 [encGossip g,.int .i64 size] [] ⟨.bool (g.may parse size),[],[]⟩:=by
 refine spec_of ok Go.Proofs.Tryz.func211 ok211 ?_
 refine(.i (g.From<1) (fun _h8=> .it _h8 (.it _h8 (.it _h8 (.it _h8 (.T (.T (.T (.T (.T (.T (.T (.T (.T (.T (.T (.T (.T (.T (.T (.T (.T (.T (.T (.T (.T (.q (Res.mk
  (.bool false) [] []) (by(simp[Gossip.may];omega)))))))))))))))))))))))))))) (fun _h8=> .iF _h8 (.iF _h8 (.iF _h8 (.iF _h8 (.i (size<g.From) (fun _h9=> .it _h9 (.it _h9 (.it _h9 (.T (.T (.T (.T
  (.T (.T (.T (.T (.T (.T (.T (.T (.T (.T (.T (.T (.T (.q (Res.mk (.bool false) [] []) (by(simp[Gossip.may];omega))))))))))))))))))))))) (fun _h9=> .iF _h9 (.iF _h9 (.iF _h9 (.i (g.To<1)
  (fun a6=> .it a6 (.it a6 (.it a6 (.it a6 (.T (.T (.T (.T (.T (.T (.T (.T (.T (.T (.T (.T (.q (Res.mk (.bool false) [] []) (by(simp[Gossip.may];omega)))))))))))))))))))
  (fun a6=> .iF a6 (.iF a6 (.iF a6 (.iF a6 (.i (size<g.To) (fun a3=> .it a3 (.it a3 (.it a3 (.it a3 (.it a3 (.T (.T (.T (.T (.T (.T (.q (Res.mk
  (.bool false) [] []) (by(simp[Gossip.may];omega)))))))))))))) (fun a3=> .iF a3 (.iF a3 (.iF a3 (.iF a3 (.iF a3 (.i (g.From=g.To) (fun a7=> .it a7 (.it a7 (.it a7 (.it a7
  (.T (.q (Res.mk (.bool false) [] []) (by(simp[Gossip.may, *];done)))))))) (fun a7=> .iF a7 (.iF a7 (.iF a7 (.iF a7
  (.k (4<(↑(List.map encVersion g.Batch).length:Int)) (4<g.Batch.length) (by simp only[List.length_map,ciLt]) (fun ai=> .q (Res.mk (.bool false) [] []) (by(simp[Gossip.may];omega)))
  (fun ai=> ?_)))))))))))))))))))))))))))
 have e0:Gossip.may parse size g=(viewsMay parse size 0 g.Views&&batchMay none g.Batch):=by
  unfold Gossip.may;rw[decide_eq_true (by omega),Bool.true_and]
 rw[e0]
 refine Sat.pLoop 4 (St.mk [(1,.int .i64 size),(2,.ref (.head 2 0) 0 0),(5,.int .i64 0)] [(.head 2 0,.box (encGossip g) true)]) (by kernel_rfl) (fun(k:Nat)=>⟨[(1,.int .i64 size),(2,.ref
  (.head 2 0) 0 0),(5,.int .i64 k)],[(.head 2 0,.box (encGossip g) true)]⟩) (fun k=>k≤g.Views.length∧viewsMay parse size 0 g.Views=viewsMay parse size (lastR g.Views k) (g.Views.drop k)∧0≤lastR g.Views k) (fun k=>g.Views.length-k) 0 rfl ?_ ?_
 ·exact⟨by omega,rfl,by simp[lastR]⟩
 ·intro k hI again
  have hk:=hI.1
  have hs:=hI.2.1
  have hp:=hI.2.2
  clear hI
  have h0:k=0∨∃j,k=j+1:=by cases k<;>simp
  refine(.kl encView g.Views k (fun aj=> .T (.em encView g.Views k ‹_›
   (fun a8 aa=>have av:=(hw a8 (List.mem_of_getElem? aa)).1;have aw:=(hw a8 (List.mem_of_getElem? aa)).2.1;have ax:=(hw a8 (List.mem_of_getElem? aa)).2.2; .c (@Tryz.c242 (a8) (size) ‹_› ‹_› ‹_› ‹_›)
   (.m (View.may parse size a8) (fun a2=> .y a2 (.y a2 (.y a2 (.y a2 (.y a2 (.y a2 (.y a2 (.T (.T (.T (.T (.T (.T (.q (Res.mk
   (.bool false) [] []) (by(clear again;(rw[hs,drop_at ‹_›];simp[viewsMay, *];done))))))))))))))))) (fun a2=> .x a2 (.x a2 (.x a2 (.T (.eh encView aa (.x a2 (.x a2 (.x a2 (.x a2
   (.i (a8.Rev<1) (fun a4=> .it a4 (.it a4 (.it a4 (.it a4 (.T (.q (Res.mk
   (.bool false) [] []) (by(clear again;(rw[hs,drop_at ‹_›];simp only[viewsMay];rw[decide_eq_false (by omega)];simp;done))))))))) (fun a4=> .iF a4 (.iF a4
   (.k (0<(↑k:Int)) (0<k) (by simp only[ciLt]) (fun a0=> .et (0<(↑k:Int)) (by simp only[ciLt]) a0 (.et (0<(↑k:Int)) (by simp only[ciLt]) a0
   (.et (0<(↑k:Int)) (by simp only[ciLt]) a0 (.T (.eh encView aa (.et (0<(↑k:Int)) (by simp only[ciLt]) a0 (.et (0<(↑k:Int)) (by simp only[ciLt]) a0
   (.et (0<(↑k:Int)) (by simp only[ciLt]) a0 (.et (0<(↑k:Int)) (by simp only[ciLt]) a0 (.et (0<(↑k:Int)) (by simp only[ciLt]) a0 (.et (0<(↑k:Int)) (by simp only[ciLt]) a0
   (.et (0<(↑k:Int)) (by simp only[ciLt]) a0 (have ag:=wI64' ((↑k:Int)-(1:Int)); .k (0≤IntKind.i64.wrap ((↑k:Int)-1)) (0≤(↑k:Int)-1) (by simp only[ag])
   (fun ak=> .eM encView g.Views ((IntKind.i64.wrap ((↑k:Int)-1)).toNat) (((↑k:Int)-1).toNat) (by simp only[ag]) (by omega)
   (fun ac ae=>have al:=(hw ac (List.mem_of_getElem? ae)).1;have ay:=(hw ac (List.mem_of_getElem? ae)).2.1;have az:=(hw ac (List.mem_of_getElem? ae)).2.2; .et (0<(↑k:Int)) (by simp only[ciLt]) a0
   (.et (0<(↑k:Int)) (by simp only[ciLt]) a0 (.et (0<(↑k:Int)) (by simp only[ciLt]) a0 (.iF a4 (.et (0<(↑k:Int)) (by simp only[ciLt]) a0 (.iF a4 (.i (a8.R≤ac.R)
   (fun am=> .q (Res.mk (.bool false) [] []) (by(clear again;(rw[hs,drop_at ‹_›];rcases h0 with rfl|⟨j,rfl⟩<;>simp_all[viewsMay,lastR]<;>omega))))
   (fun am=>have an:=wI64' ((↑k:Int)+(1:Int)); .A (St.mk [(1,.int .i64 size),(2,.ref
   (.head 2 0) 0 0),(5,.int .i64 (IntKind.i64.wrap ((↑k:Int)+1)))] [(.head 2 0,.box (encGossip g) true)]) (by simp[encGossip,an]) (again (k+(1:Nat)) ⟨(by omega),⟨(by(clear again;(rw[hs,drop_at ‹_›];rcases h0 with rfl|⟨j,rfl⟩<;>simp_all[viewsMay,lastR]<;>omega))),(by(clear again;(rw[drop_at ‹_›]at hs;rcases h0 with rfl|⟨j,rfl⟩<;>simp_all[viewsMay,lastR]<;>omega)))⟩⟩ (by omega)))))))))))
   (fun ak=>False.elim (by omega))))))))))))))) (fun a0=> .eF (0<(↑k:Int)) (by simp only[ciLt]) a0 (.eF (0<(↑k:Int)) (by simp only[ciLt]) a0
   (.eF (0<(↑k:Int)) (by simp only[ciLt]) a0 (.eF (0<(↑k:Int)) (by simp only[ciLt]) a0 (.eF (0<(↑k:Int)) (by simp only[ciLt]) a0 (.eF (0<(↑k:Int)) (by simp only[ciLt]) a0
   (.eF (0<(↑k:Int)) (by simp only[ciLt]) a0 (.eF (0<(↑k:Int)) (by simp only[ciLt]) a0 (.eF (0<(↑k:Int)) (by simp only[ciLt]) a0 (.eF (0<(↑k:Int)) (by simp only[ciLt]) a0
   (.eF (0<(↑k:Int)) (by simp only[ciLt]) a0 (.eF (0<(↑k:Int)) (by simp only[ciLt]) a0 (.eF (0<(↑k:Int)) (by simp only[ciLt]) a0 (.iF a4
   (.eF (0<(↑k:Int)) (by simp only[ciLt]) a0 (.iF a4 (.F (have ao:=wI64' ((↑k:Int)+(1:Int)); .A (St.mk [(1,.int .i64 size),(2,.ref
   (.head 2 0) 0 0),(5,.int .i64 (IntKind.i64.wrap ((↑k:Int)+1)))] [(.head 2 0,.box (encGossip g) true)]) (by simp[encGossip,ao]) (again (k+(1:Nat)) ⟨(by omega),⟨(by(clear again;(exact views_step0 ‹_› ‹_› hs ‹_› ‹_›))),(by(clear again;(exact lastR_pos ‹_› ‹_›)))⟩⟩ (by omega)))))))))))))))))))))))))))))))))))))
   (fun aj=> ?_))
  have hv1:viewsMay parse size 0 g.Views=true:=by rw[hs,List.drop_of_length_le (by omega)];rfl
  rw[hv1,Bool.true_and]
  refine Sat.pLoop 9 (St.mk [(2,.ref (.head 2 0) 0 0),(6,.int .i64 0)] [(.head 2 0,.box (encGossip g) true)]) (by kernel_rfl) (fun(k:Nat)=>⟨[(2,.ref
   (.head 2 0) 0 0),(6,.int .i64 k)],[(.head 2 0,.box (encGossip g) true)]⟩) (fun k=>k≤g.Batch.length∧batchMay none g.Batch=batchMay (lastS g.Batch k) (g.Batch.drop k)) (fun k=>g.Batch.length-k) 0 rfl ?_ ?_
  ·exact⟨by omega,rfl⟩
  ·intro j hJ again2
   have hj:=hJ.1
   have hb:=hJ.2
   clear hJ
   have h00:j=0∨∃i,j=i+1:=by cases j<;>simp
   refine(.kl encVersion g.Batch j (fun a0=> .T (.em encVersion g.Batch j ‹_›
    (fun a9 ad=>have aA:=(hv a9 (List.mem_of_getElem? ad)).1;have aB:=(hv a9 (List.mem_of_getElem? ad)).2.1;have al:=(hv a9 (List.mem_of_getElem? ad)).2.2; .c (@Tryz.c96 (a9) ‹_› ‹_› ‹_›)
    (.m a9.may (fun a5=> .y a5 (.y a5 (.y a5 (.y a5 (.T (.q (Res.mk (.bool false) [] []) (by(clear again again2;(rw[hb,drop_at ‹_›];simp[batchMay, *];done))))))))) (fun a5=> .x a5
    (.x a5 (.k (0<(↑j:Int)) (0<j) (by simp only[ciLt]) (fun a1=> .et (0<(↑j:Int)) (by simp only[ciLt]) a1 (.et (0<(↑j:Int)) (by simp only[ciLt]) a1
    (.et (0<(↑j:Int)) (by simp only[ciLt]) a1 (.et (0<(↑j:Int)) (by simp only[ciLt]) a1
    (have ah:=wI64' ((↑j:Int)-(1:Int)); .k (0≤IntKind.i64.wrap ((↑j:Int)-1)) (0≤(↑j:Int)-1) (by simp only[ah])
    (fun ap=> .eM encVersion g.Batch ((IntKind.i64.wrap ((↑j:Int)-1)).toNat) (((↑j:Int)-1).toNat) (by simp only[ah]) (by omega)
    (fun ab af=>have aC:=(hv ab (List.mem_of_getElem? af)).1;have aD:=(hv ab (List.mem_of_getElem? af)).2.1;have aE:=(hv ab (List.mem_of_getElem? af)).2.2; .et (0<(↑j:Int)) (by simp only[ciLt]) a1
    (.et (0<(↑j:Int)) (by simp only[ciLt]) a1 (.et (0<(↑j:Int)) (by simp only[ciLt]) a1 (.et (0<(↑j:Int)) (by simp only[ciLt]) a1 (.et (0<(↑j:Int)) (by simp only[ciLt]) a1
    (.et (0<(↑j:Int)) (by simp only[ciLt]) a1 (.T (.eh encVersion ad (.et (0<(↑j:Int)) (by simp only[ciLt]) a1 (.et (0<(↑j:Int)) (by simp only[ciLt]) a1
    (.et (0<(↑j:Int)) (by simp only[ciLt]) a1 (.c (@Tryz.c28 (ab.S) (a9.S)) (.et (0<(↑j:Int)) (by simp only[ciLt]) a1 (.x a5 (.et (0<(↑j:Int)) (by simp only[ciLt]) a1 (.x a5
    (.i (0≤ab.S.cmp a9.S) (fun aq=> .q (Res.mk (.bool false) [] []) (by(clear again again2;(rw[hb,drop_at ‹_›];rcases h00 with rfl|⟨i,rfl⟩<;>simp_all[batchMay,lastS]<;>omega))))
    (fun aq=>have ar:=wI64' ((↑j:Int)+(1:Int)); .A (St.mk [(2,.ref
    (.head 2 0) 0 0),(6,.int .i64 (IntKind.i64.wrap ((↑j:Int)+1)))] [(.head 2 0,.box (encGossip g) true)]) (by simp[encGossip,ar]) (again2 (j+(1:Nat)) ⟨(by omega),(by(clear again again2;(rw[hb,drop_at ‹_›];rcases h00 with rfl|⟨i,rfl⟩<;>simp_all[batchMay,lastS]<;>omega)))⟩ (by omega)))))))))))))))))))))
    (fun ap=>False.elim (by omega))))))) (fun a1=> .eF (0<(↑j:Int)) (by simp only[ciLt]) a1 (.eF (0<(↑j:Int)) (by simp only[ciLt]) a1 (.eF (0<(↑j:Int)) (by simp only[ciLt]) a1
    (.eF (0<(↑j:Int)) (by simp only[ciLt]) a1 (.eF (0<(↑j:Int)) (by simp only[ciLt]) a1 (.eF (0<(↑j:Int)) (by simp only[ciLt]) a1 (.eF (0<(↑j:Int)) (by simp only[ciLt]) a1
    (.eF (0<(↑j:Int)) (by simp only[ciLt]) a1 (.eF (0<(↑j:Int)) (by simp only[ciLt]) a1 (.eF (0<(↑j:Int)) (by simp only[ciLt]) a1 (.eF (0<(↑j:Int)) (by simp only[ciLt]) a1
    (.eF (0<(↑j:Int)) (by simp only[ciLt]) a1 (.eF (0<(↑j:Int)) (by simp only[ciLt]) a1 (.eF (0<(↑j:Int)) (by simp only[ciLt]) a1 (.x a5
    (.eF (0<(↑j:Int)) (by simp only[ciLt]) a1 (.x a5 (.F (have au:=wI64' ((↑j:Int)+(1:Int)); .A (St.mk [(2,.ref
    (.head 2 0) 0 0),(6,.int .i64 (IntKind.i64.wrap ((↑j:Int)+1)))] [(.head 2 0,.box (encGossip g) true)]) (by simp[encGossip,au]) (again2 (j+(1:Nat)) ⟨(by omega),(by(clear again again2;(rw[hb,drop_at ‹_›];rcases h00 with rfl|⟨i,rfl⟩<;>simp_all[batchMay,lastS]<;>omega)))⟩ (by omega))))))))))))))))))))))))))))
    (fun a0=> .q (Res.mk (.bool true) [] []) (by(clear again again2;(rw[hb,List.drop_of_length_le (by omega)];simp[batchMay])))))
end Go.Ab.Tryz
