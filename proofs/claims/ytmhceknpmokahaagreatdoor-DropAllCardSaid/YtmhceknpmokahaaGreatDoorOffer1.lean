/- Package offer: what is known, and versions in order. -/
import Derived.Test.YtmhceknpmokahaaGreatDoorRank4
import Derived.Test.YtmhceknpmokahaaGreatDoorOwn
import Derived.Test.YtmhceknpmokahaaGreatDoorAbEdge
namespace Go.Ab.Tryz
open Go
set_option maxRecDepth 100000
set_option maxHeartbeats 4000000
theorem c121 (v:View) (h1:v.Seen.length≤1000) (h2:v.Epochs.length≤1000):X.call 121 [encView v] [] ⟨encView v,[],[]⟩:=by
 refine spec_of ok Go.Proofs.Tryz.func121 ok121 ?_
 refine(.c (@Tryz.c138 (v.Seen) ‹_›) (.c (@Tryz.c139 (v.Epochs) ‹_›)
  (have _w4:List.take v.Seen.length (List.map encHead v.Seen)=List.map encHead v.Seen:=List.take_of_length_le (by simp);have _w5:List.take v.Epochs.length (List.map encI v.Epochs)=List.map encI v.Epochs:=List.take_of_length_le (by simp); .q (Res.mk
  (.agg [.int .i64 v.R,.int .i64 v.Rev,.str v.Filter,.tree (List.take v.Seen.length (List.map encHead v.Seen)),.tree (List.take v.Epochs.length (List.map encI v.Epochs))]) [] []) (by(simp[encView,List.take_of_length_le];done)))))
theorem merge_nil (a:List View) (h:a.length≤1000) (ha:∀v∈a,v.Seen.length≤1000∧v.Epochs.length≤1000):X.call 75 [.tree (a.map encView),.tree []] [] ⟨.tree (a.map encView),[],[]⟩:=by
 refine spec_of ok Go.Proofs.Tryz.func75 ok75 ?_
 refine ?_
 refine Sat.pLoop 1 (St.mk [(0,.tree (List.map encView a)),(1,.tree []),(4,.sref
  (.head 4 0) 0 0)] [(.head 4 0,.row 5 [] true true)]) (by kernel_rfl) (fun(p:List View×List View)=>⟨[(0,.tree (p.1.map encView)),(1,.tree []),(4,.sref
  (.head 4 0) 0 p.2.length)],[(.head 4 0,.row 5 (p.2.map encView) true true)]⟩) (fun p=>p.2.length+p.1.length≤1000∧(∀v∈p.1,v.Seen.length≤1000∧v.Epochs.length≤1000)∧p.2++p.1=a) (fun p=>p.1.length) (a,[]) rfl ?_ ?_
 ·exact⟨by simpa using h,ha,rfl⟩
 ·rintro⟨x,o⟩ hI again
  obtain⟨i3,i4,i6⟩:=hI
  simp only at i3 i4 i6
  rcases x with _|⟨u,x⟩
  ·have e:o=a:=by rw[←i6];simp
   refine(.F (.F (.F (.F (.F (have a4:List.take o.length (List.map encView o)=List.map encView o:=List.take_of_length_le (by simp); .q (Res.mk
    (.tree (List.take o.length (List.map encView o))) [] []) (by(clear again;(rw[e];simp[List.take_of_length_le];done)))))))))
  ·have hu:=i4 u (List.mem_cons_self ..)
   simp only[List.length_cons]at i3
   have i4':∀w∈x,w.Seen.length≤1000∧w.Epochs.length≤1000:=fun w hw=>i4 w (List.mem_cons_of_mem _ hw)
   clear i4
   refine(.k (0<(↑(List.map encView (u::x)).length:Int)) (0<x.length+1) (by simp only[List.length_map,List.length_cons,ciLt])
    (fun a0=> .et (0<(↑(List.map encView (u::x)).length:Int)) (by simp only[List.length_map,List.length_cons,ciLt]) a0
    (.et (0<(↑(List.map encView (u::x)).length:Int)) (by simp only[List.length_map,List.length_cons,ciLt]) a0
    (.et (0<(↑(List.map encView (u::x)).length:Int)) (by simp only[List.length_map,List.length_cons,ciLt]) a0 (.T (.T (.T (.T (.T (.T (.T (.T (.T
    (Sat.pElem (List.map encView (u::x)) ((0:Nat)) (encView u) (by kernel_rfl) rfl (.z encView (u::x) 5 (fun _=>rfl)
    (.k ((0:Int)≤1∧1≤(↑(List.map encView (u::x)).length:Int)) ((0:Int)≤1∧1≤x.length+1) (by simp only[List.length_map,List.length_cons,ciLe])
    (fun a2=> .c (@Tryz.c121 (u) (by omega) (by omega)) (.i ((o.length+1)*(80:Nat)≤140737488355328)
    (fun a3=> .k (o.length=(List.map encView o).length) (True) (by simp only[List.length_map]) (fun a1=> .A (St.mk [(0,.tree (List.drop 1 (List.map encView (u::x)))),(1,.tree []),(4,.sref
    (.head 4 0) 0 (o.length+1))] [(.head 4 0,.row 5 (List.map encView o++[encView u]) true true)]) (by simp[encView]) (again ((List.drop (1:Nat) (u::x),o++[u])) ⟨(by dsimp only;(clear again;(simp;omega))),⟨(by dsimp only;assumption),(by dsimp only;(clear again;(simp;omega)))⟩⟩ (by dsimp only;(clear again;(simp;done)))))
    (fun a1=>(a1 trivial).elim)) (fun a3=>False.elim (by omega)))) (fun a2=>False.elim (by omega))))))))))))))))) (fun a0=>False.elim (by omega)))
end Go.Ab.Tryz
