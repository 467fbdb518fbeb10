/- Package rank, as plain Lean. -/
import Derived.Test.YtmhceknpmokahaaGreatDoorRef1f
import Derived.Test.YtmhceknpmokahaaGreatDoorG3
namespace Go.Ab.Tryz
open Go
set_option maxRecDepth 100000
set_option maxHeartbeats 4000000
theorem c137 (l:List Attr) (hl:l.length≤1000):
  X.call 137 [.tree (l.map encAttr)] [] ⟨.sref (.out 0) 0 l.length,[],[.row 2 (l.map encAttr) true true]⟩:=by
 refine spec_of ok Go.Proofs.Tryz.func137 ok137 ?_
 refine(Sat.pNodeE ((List.map encAttr l).isEmpty) (l= []) (by kernel_rfl) (by simp only[List.isEmpty_map,List.isEmpty_iff]) (fun _h3=> .b (.T (.q (Res.mk (.sref
  (.out 0) 0 0) [] [.row 2 [] true true]) (by simp_all))) (.F (.z encAttr l 2 (fun _=>rfl)
  (.k ((0+(List.map encAttr l).length)*(16:Nat)≤140737488355328) ((0+l.length)*(16:Nat)≤140737488355328) (by simp only[List.length_map]) (fun _h4=> .T (.q (Res.mk (.sref
  (.out 0) 0 (0+(List.map encAttr l).length)) [] [.row 2 (List.map encAttr l) true true]) (by simp_all))) (fun _h4=>False.elim (by omega)))))) (fun _h3=> .F (.z encAttr l 2 (fun _=>rfl)
  (.k ((0+(List.map encAttr l).length)*(16:Nat)≤140737488355328) ((0+l.length)*(16:Nat)≤140737488355328) (by simp only[List.length_map]) (fun _h5=> .T (.q (Res.mk (.sref
  (.out 0) 0 (0+(List.map encAttr l).length)) [] [.row 2 (List.map encAttr l) true true]) (by simp_all))) (fun _h5=>False.elim (by omega))))))
theorem c136 (l:List Version) (hl:l.length≤1000):
  X.call 136 [.tree (l.map encVersion)] [] ⟨.sref (.out 0) 0 l.length,[],[.row 8 (l.map encVersion) true true]⟩:=by
 refine spec_of ok Go.Proofs.Tryz.func136 ok136 ?_
 refine(Sat.pNodeE ((List.map encVersion l).isEmpty) (l= []) (by kernel_rfl) (by simp only[List.isEmpty_map,List.isEmpty_iff]) (fun _h3=> .b (.T (.q (Res.mk (.sref
  (.out 0) 0 0) [] [.row 8 [] true true]) (by simp_all))) (.F (.z encVersion l 8 (fun _=>rfl)
  (.k ((0+(List.map encVersion l).length)*(96:Nat)≤140737488355328) ((0+l.length)*(96:Nat)≤140737488355328) (by simp only[List.length_map]) (fun _h4=> .T (.q (Res.mk (.sref
  (.out 0) 0 (0+(List.map encVersion l).length)) [] [.row 8 (List.map encVersion l) true true]) (by simp_all))) (fun _h4=>False.elim (by omega)))))) (fun _h3=> .F (.z encVersion l 8 (fun _=>rfl)
  (.k ((0+(List.map encVersion l).length)*(96:Nat)≤140737488355328) ((0+l.length)*(96:Nat)≤140737488355328) (by simp only[List.length_map]) (fun _h5=> .T (.q (Res.mk (.sref
  (.out 0) 0 (0+(List.map encVersion l).length)) [] [.row 8 (List.map encVersion l) true true]) (by simp_all))) (fun _h5=>False.elim (by omega))))))
theorem c128 (l:List View) (hl:l.length≤1000):
  X.call 128 [.tree (l.map encView)] [] ⟨.sref (.out 0) 0 l.length,[],[.row 5 (l.map encView) true true]⟩:=by
 refine spec_of ok Go.Proofs.Tryz.func128 ok128 ?_
 refine(Sat.pNodeE ((List.map encView l).isEmpty) (l= []) (by kernel_rfl) (by simp only[List.isEmpty_map,List.isEmpty_iff]) (fun _h3=> .b (.T (.q (Res.mk (.sref
  (.out 0) 0 0) [] [.row 5 [] true true]) (by simp_all))) (.F (.z encView l 5 (fun _=>rfl)
  (.k ((0+(List.map encView l).length)*(80:Nat)≤140737488355328) ((0+l.length)*(80:Nat)≤140737488355328) (by simp only[List.length_map]) (fun _h4=> .T (.q (Res.mk (.sref
  (.out 0) 0 (0+(List.map encView l).length)) [] [.row 5 (List.map encView l) true true]) (by simp_all))) (fun _h4=>False.elim (by omega)))))) (fun _h3=> .F (.z encView l 5 (fun _=>rfl)
  (.k ((0+(List.map encView l).length)*(80:Nat)≤140737488355328) ((0+l.length)*(80:Nat)≤140737488355328) (by simp only[List.length_map]) (fun _h5=> .T (.q (Res.mk (.sref
  (.out 0) 0 (0+(List.map encView l).length)) [] [.row 5 (List.map encView l) true true]) (by simp_all))) (fun _h5=>False.elim (by omega))))))
theorem c138 (l:List Head) (hl:l.length≤1000):
  X.call 138 [.tree (l.map encHead)] [] ⟨.sref (.out 0) 0 l.length,[],[.row 4 (l.map encHead) true true]⟩:=by
 refine spec_of ok Go.Proofs.Tryz.func138 ok138 ?_
 refine(Sat.pNodeE ((List.map encHead l).isEmpty) (l= []) (by kernel_rfl) (by simp only[List.isEmpty_map,List.isEmpty_iff]) (fun _h3=> .b (.T (.q (Res.mk (.sref
  (.out 0) 0 0) [] [.row 4 [] true true]) (by simp_all))) (.F (.z encHead l 4 (fun _=>rfl)
  (.k ((0+(List.map encHead l).length)*(32:Nat)≤140737488355328) ((0+l.length)*(32:Nat)≤140737488355328) (by simp only[List.length_map]) (fun _h4=> .T (.q (Res.mk (.sref
  (.out 0) 0 (0+(List.map encHead l).length)) [] [.row 4 (List.map encHead l) true true]) (by simp_all))) (fun _h4=>False.elim (by omega)))))) (fun _h3=> .F (.z encHead l 4 (fun _=>rfl)
  (.k ((0+(List.map encHead l).length)*(32:Nat)≤140737488355328) ((0+l.length)*(32:Nat)≤140737488355328) (by simp only[List.length_map]) (fun _h5=> .T (.q (Res.mk (.sref
  (.out 0) 0 (0+(List.map encHead l).length)) [] [.row 4 (List.map encHead l) true true]) (by simp_all))) (fun _h5=>False.elim (by omega))))))
theorem c139 (l:List Int) (hl:l.length≤1000):
  X.call 139 [.tree (l.map encI)] [] ⟨.sref (.out 0) 0 l.length,[],[.row 1 (l.map encI) true true]⟩:=by
 refine spec_of ok Go.Proofs.Tryz.func139 ok139 ?_
 refine(Sat.pNodeE ((List.map encI l).isEmpty) (l= []) (by kernel_rfl) (by simp only[List.isEmpty_map,List.isEmpty_iff]) (fun _h3=> .b (.T (.q (Res.mk (.sref
  (.out 0) 0 0) [] [.row 1 [] true true]) (by simp_all))) (.F (.z encI l 1 (fun _=>rfl)
  (.k ((0+(List.map encI l).length)*(8:Nat)≤140737488355328) ((0+l.length)*(8:Nat)≤140737488355328) (by simp only[List.length_map]) (fun _h4=> .T (.q (Res.mk (.sref
  (.out 0) 0 (0+(List.map encI l).length)) [] [.row 1 (List.map encI l) true true]) (by simp_all))) (fun _h4=>False.elim (by omega)))))) (fun _h3=> .F (.z encI l 1 (fun _=>rfl)
  (.k ((0+(List.map encI l).length)*(8:Nat)≤140737488355328) ((0+l.length)*(8:Nat)≤140737488355328) (by simp only[List.length_map]) (fun _h5=> .T (.q (Res.mk (.sref
  (.out 0) 0 (0+(List.map encI l).length)) [] [.row 1 (List.map encI l) true true]) (by simp_all))) (fun _h5=>False.elim (by omega))))))
theorem set_same {T:Type} {enc:T→AV} {l:List T} {n:Nat} {x:T} (h:l[n]? =some x):(l.map enc).set n (enc x)=l.map enc:=by
 rw[←List.map_set]
 congr 1
 have hk:n<l.length:=(List.getElem?_eq_some_iff.1 h).1
 rw[List.getElem?_eq_getElem hk]at h
 rw[←Option.some.inj h];exact List.set_getElem_self hk
theorem c90 (r:Repl) (h1:r.Held.length≤1000) (h2:r.Views.length≤1000) (h3:∀v∈r.Held,v.Attrs.length≤1000) (h4:∀w∈r.Views,w.Seen.length≤1000∧w.Epochs.length≤1000):X.call 90 [encRepl r] [] ⟨encRepl r,[],[]⟩:=by
 refine spec_of ok Go.Proofs.Tryz.func90 ok90 ?_
 refine(.c (@Tryz.c136 (r.Held) ‹_›) ?_)
 refine Sat.pLoop 3 (St.mk [(1,.ref (.head 1 0) 0 0),(2,.ref (.head 2 0) 0 0),(3,.sref (.head 3 0) 0 r.Held.length),(11,.sref
  (.head 3 0) 0 r.Held.length),(12,.int .i64 (↑r.Held.length:Int)),(13,.int .i64 0)] [(.head 1 0,.box (encRepl r) true),(.head 2 0,.box
  (.agg [.int .i64 0,.int .i64 0,.int .i64 0,.int .i64 0,.int .i64 0,.nils,.nils]) true),(.head 3 0,.row 8 (List.map encVersion r.Held) true true)]) (by kernel_rfl) (fun(i:Nat)=>⟨[(1,.ref
  (.head 1 0) 0 0),(2,.ref (.head 2 0) 0 0),(3,.sref (.head 3 0) 0 r.Held.length),(11,.sref
  (.head 3 0) 0 r.Held.length),(12,.int .i64 r.Held.length),(13,.int .i64 i)],[(.head 1 0,.box (encRepl r) true),(.head 2 0,.box
  (.agg [.int .i64 0,.int .i64 0,.int .i64 0,.int .i64 0,.int .i64 0,.nils,.nils]) true),
  (.head 3 0,.row 8 (r.Held.map encVersion) true true)]⟩) (fun i=>i≤r.Held.length) (fun i=>r.Held.length-i) 0 rfl ?_ ?_
 ·omega
 ·intro i hi again
  refine(.k ((↑i:Int)<(↑r.Held.length:Int)) (i<r.Held.length) (by simp only[Int.ofNat_lt])
   (fun _h9=> .k (0≤(↑i:Int)∧(↑i:Int)<(↑r.Held.length:Int)) (0≤i∧i<r.Held.length) (by simp only[Int.ofNat_lt,ciLe]) (fun a5=> .em encVersion r.Held i ‹_›
   (fun a1 a6=>have aa:=(h3 a1 (List.mem_of_getElem? a6)); .c (@Tryz.c137 (a1.Attrs) ‹_›)
   (.et (0≤(↑i:Int)∧(↑i:Int)<(↑r.Held.length:Int)) (by simp only[Int.ofNat_lt,ciLe]) a5 (.eh encVersion a6
   (have ab:=wI64' ((↑i:Int)+(1:Int));have ac:List.take a1.Attrs.length (List.map encAttr a1.Attrs)=List.map encAttr a1.Attrs:=List.take_of_length_le (by simp); .A (St.mk [(1,.ref
   (.head 1 0) 0 0),(2,.ref (.head 2 0) 0 0),(3,.sref (.head 3 0) 0 r.Held.length),(11,.sref
   (.head 3 0) 0 r.Held.length),(12,.int .i64 (↑r.Held.length:Int)),(13,.int .i64 (IntKind.i64.wrap ((↑i:Int)+1)))] [(.head 1 0,.box (encRepl r) true),(.head 2 0,.box
   (.agg [.int .i64 0,.int .i64 0,.int .i64 0,.int .i64 0,.int .i64 0,.nils,.nils]) true),(.head 3 0,.row 8 ((List.map encVersion r.Held).set (↑i:Int).toNat
   (.agg [.int .i64 a1.Item,.int .i64 a1.S.L,.int .i64 a1.S.R,.int .i64 a1.S.N,.bool a1.Dead,.tree (List.take a1.Attrs.length (List.map encAttr a1.Attrs)),.str a1.Tag,.str a1.Body])) true true)]) (by(clear again;(have e:=set_same (enc:=encVersion) ‹r.Held[i]? =some _›;simp only[encVersion]at e;simp[encRepl,List.take_of_length_le, *];done))) (again (i+(1:Nat)) (by omega) (by omega)))))))
   (fun a5=>False.elim (by omega))) (fun _h9=> .c (@Tryz.c128 (r.Views) ‹_›) ?_))
  refine Sat.pLoop 9 (St.mk [(1,.ref (.head 1 0) 0 0),(2,.ref (.head 2 0) 0 0),(33,.sref (.head 1 2) 0 r.Views.length),(34,.int .i64 (↑r.Views.length:Int)),(35,.int .i64 0)] [(.head 1 0,.box
   (.agg [.int .i64 r.ID,.int .i64 r.Size,.int .i64 r.L,.int .i64 r.N,.int .i64 r.Quota,.sref (.head 1 1) 0 r.Held.length,.sref (.head 1 2) 0 r.Views.length]) true),
   (.head 1 1,.row 8 (List.map encVersion r.Held) true true),(.head 1 2,.row 5 (List.map encView r.Views) true true),(.head 2 0,.box
   (.agg [.int .i64 0,.int .i64 0,.int .i64 0,.int .i64 0,.int .i64 0,.nils,.nils]) true)]) (by kernel_rfl) (fun(j:Nat)=>⟨[(1,.ref (.head 1 0) 0 0),(2,.ref (.head 2 0) 0 0),(33,.sref
   (.head 1 2) 0 r.Views.length),(34,.int .i64 r.Views.length),(35,.int .i64 j)],[(.head 1 0,.box (.agg [.int .i64 r.ID,.int .i64 r.Size,.int .i64 r.L,.int .i64 r.N,.int .i64 r.Quota,.sref
   (.head 1 1) 0 r.Held.length,.sref (.head 1 2) 0 r.Views.length]) true),(.head 1 1,.row 8 (r.Held.map encVersion) true true),(.head 1 2,.row 5 (r.Views.map encView) true true),(.head 2 0,.box
   (.agg [.int .i64 0,.int .i64 0,.int .i64 0,.int .i64 0,.int .i64 0,.nils,.nils]) true)]⟩) (fun j=>j≤r.Views.length) (fun j=>r.Views.length-j) 0 rfl ?_ ?_
  ·omega
  ·intro j hj again2
   refine(.k ((↑j:Int)<(↑r.Views.length:Int)) (j<r.Views.length) (by simp only[Int.ofNat_lt])
    (fun a8=> .k (0≤(↑j:Int)∧(↑j:Int)<(↑r.Views.length:Int)) (0≤j∧j<r.Views.length) (by simp only[Int.ofNat_lt,ciLe]) (fun a4=> .em encView r.Views j ‹_›
    (fun a0 a3=>have ad:=(h4 a0 (List.mem_of_getElem? a3)).1;have ae:=(h4 a0 (List.mem_of_getElem? a3)).2; .c (@Tryz.c138 (a0.Seen) ‹_›) (.c (@Tryz.c139 (a0.Epochs) ‹_›)
    (.et (0≤(↑j:Int)∧(↑j:Int)<(↑r.Views.length:Int)) (by simp only[Int.ofNat_lt,ciLe]) a4 (.eh encView a3
    (.et (0≤(↑j:Int)∧(↑j:Int)<(↑r.Views.length:Int)) (by simp only[Int.ofNat_lt,ciLe]) a4
    (have a9:List.take a0.Seen.length (List.map encHead a0.Seen)=List.map encHead a0.Seen:=List.take_of_length_le (by simp);Sat.pElemM (encView) (r.Views.set (↑j:Int).toNat a0) ((List.map encView r.Views).set (↑j:Int).toNat (AV.agg [AV.int IntKind.i64 a0.R,AV.int IntKind.i64 a0.Rev,AV.str a0.Filter,AV.tree (List.take a0.Seen.length (List.map encHead a0.Seen)),AV.tree (List.map encI a0.Epochs)])) (j) (by kernel_rfl) (by simp[encView,a9]) (by(clear again again2;(simp;omega)))
    (fun a2 a7=>have af:=wI64' ((↑j:Int)+(1:Int));have ag:List.take a0.Epochs.length (List.map encI a0.Epochs)=List.map encI a0.Epochs:=List.take_of_length_le (by simp); .A (St.mk [(1,.ref
    (.head 1 0) 0 0),(2,.ref (.head 2 0) 0 0),(33,.sref (.head 1 2) 0 r.Views.length),(34,.int .i64 (↑r.Views.length:Int)),(35,.int .i64 (IntKind.i64.wrap ((↑j:Int)+1)))] [(.head 1 0,.box
    (.agg [.int .i64 r.ID,.int .i64 r.Size,.int .i64 r.L,.int .i64 r.N,.int .i64 r.Quota,.sref (.head 1 1) 0 r.Held.length,.sref (.head 1 2) 0 r.Views.length]) true),
    (.head 1 1,.row 8 (List.map encVersion r.Held) true true),(.head 1 2,.row 5 (((List.map encView r.Views).set (↑j:Int).toNat
    (.agg [.int .i64 a0.R,.int .i64 a0.Rev,.str a0.Filter,.tree (List.take a0.Seen.length (List.map encHead a0.Seen)),.tree (List.map encI a0.Epochs)])).set (↑j:Int).toNat
    (.agg [.int .i64 a2.R,.int .i64 a2.Rev,.str a2.Filter,.tree (List.map encHead a2.Seen),.tree (List.take a0.Epochs.length (List.map encI a0.Epochs))])) true true),(.head 2 0,.box
    (.agg [.int .i64 0,.int .i64 0,.int .i64 0,.int .i64 0,.int .i64 0,.nils,.nils]) true)]) ?_ (again2 (j+(1:Nat)) (by omega) (by omega)))))))))) (fun a4=>False.elim (by omega)))
    (fun a8=>have ah:List.take r.Held.length (List.map encVersion r.Held)=List.map encVersion r.Held:=List.take_of_length_le (by simp);have ai:List.take r.Views.length (List.map encView r.Views)=List.map encView r.Views:=List.take_of_length_le (by simp); .q (Res.mk
    (.agg [.int .i64 r.ID,.int .i64 r.Size,.int .i64 r.L,.int .i64 r.N,.int .i64 r.Quota,.tree (List.take r.Held.length (List.map encVersion r.Held)),.tree (List.take r.Views.length (List.map encView r.Views))]) [] []) (by simp[encRepl,List.take_of_length_le];done)))
   have e20:a2=a0:=by
    rw[Int.toNat_natCast,List.getElem?_set_self (by omega)]at a7
    exact(Option.some.inj a7).symm
   have e:=set_same (enc:=encView) a3
   simp only[encView]at e
   rw[e20]
   simp[encI,List.take_of_length_le,List.set_set, *]
end Go.Ab.Tryz
