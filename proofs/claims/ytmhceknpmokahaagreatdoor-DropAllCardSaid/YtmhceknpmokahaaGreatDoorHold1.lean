/- Package hold: those that are so. -/
import Derived.Test.YtmhceknpmokahaaGreatDoorEval1
import Derived.Test.YtmhceknpmokahaaGreatDoorAbEdge
namespace Go.Ab.Tryz
open Go
set_option maxRecDepth 100000
set_option maxHeartbeats 4000000
theorem c144 (v:Version) (h:v.Attrs.length≤1000):X.call 144 [encVersion v] [] ⟨encVersion v,[],[]⟩:=by
 refine spec_of ok Go.Proofs.Tryz.func144 ok144 ?_
 refine(.c (@Tryz.c137 (v.Attrs) ‹_›) (have _w3:List.take v.Attrs.length (List.map encAttr v.Attrs)=List.map encAttr v.Attrs:=List.take_of_length_le (by simp); .q (Res.mk
  (.agg [.int .i64 v.Item,.int .i64 v.S.L,.int .i64 v.S.R,.int .i64 v.S.N,.bool v.Dead,.tree (List.take v.Attrs.length (List.map encAttr v.Attrs)),.str v.Tag,.str v.Body]) [] []) (by(simp[encVersion,List.take_of_length_le];done))))
theorem c120 (v:Version) (item:Int):X.call 120 [encVersion v,.cptr (.int .i64 item)] [] ⟨.bool (decide (v.Item≠item)),[],[]⟩:=by
 refine spec_of ok Go.Proofs.Tryz.func120 ok120 ?_
 refine(.q (Res.mk (.bool !decide (v.Item=item)) [] []) (by(simp;done)))
theorem c119 (v:Version) (f:Flt) (ha:v.Attrs.length≤1000) (ht:v.Tag.length≤1000) (hf:f.ok) (hs:f.short):X.call 119 [encVersion v,.cptr (encFlt f)] [] ⟨.bool (!f.lets v),[],[]⟩:=by
 refine spec_of ok Go.Proofs.Tryz.func119 ok119 ?_
 refine(.c (@Tryz.c100 (v) ‹_› ‹_› (f) ‹_› ‹_›) .r)
theorem some_without (l:List Version) (item:Int) (hl:l.length≤1000) (ha:∀v∈l,v.Attrs.length≤1000):X.call 118 [.tree (l.map encVersion),.func 120 [] [.cptr (.int .i64 item)]] [] ⟨.sref (.out 0) 0 (l.filter fun v=>decide (v.Item≠item)).length,[],[.row 8 ((l.filter fun v=>decide (v.Item≠item)).map encVersion) true true]⟩:=by
 refine spec_of ok Go.Proofs.Tryz.func118 ok118 ?_
 refine ?_
 refine Sat.pLoop 2 (St.mk [(1,AV.func (120:FuncId) [] [(AV.int IntKind.i64 item).cptr]),(4,AV.sref (Site.head 4 0) 0 0),(7,AV.tree (List.map encVersion l)),(8,AV.int IntKind.i64 (↑(List.map encVersion l).length:Int)),(9,AV.int IntKind.i64 0)] [(Site.head 4 0,Blk.row 8 [] true true)]) (by kernel_rfl) (fun(p:Nat×List Version)=>⟨[(1,.func 120 [] [.cptr
  (.int .i64 item)]),(4,.sref
  (.head 4 0) 0 p.2.length),(7,.tree (l.map encVersion)),(8,.int .i64 l.length),(9,.int .i64 p.1)],[(.head 4 0,.row 8 (p.2.map encVersion) true true)]⟩) (fun p=>p.1≤l.length∧p.2.length≤p.1∧p.2=(l.take p.1).filter fun v=>decide (v.Item≠item)) (fun p=>l.length-p.1) (0,[]) (by simp) ?_ ?_
 ·exact⟨by simp,by simp,by simp⟩
 ·rintro⟨k,o⟩ hI again
  obtain⟨k1,k2,k3⟩:=hI
  simp only at k1 k2 k3
  by_cases hk:k<l.length
  ·obtain⟨v,hv⟩:∃v,l[k]? =some v:=⟨l[k],by simp⟩
   have hm:=ha v (List.mem_of_getElem? hv)
   refine(.et ((↑k:Int)<(↑l.length:Int)) (by simp only[Int.ofNat_lt]) hk (.T (.eh encVersion hv (.c (@Go.Ab.Tryz.c120 (v) (item)) (.k (v.Item≠item) (¬v.Item=item) (by simp only [])
    (fun a1=> .c (@Go.Ab.Tryz.c144 (v) (by assumption)) (.i ((o.length+1)*(96:Nat)≤140737488355328)
    (fun a2=> .k (o.length=(List.map encVersion o).length) (True) (by simp only[List.length_map])
    (fun a0=>have a3:=wI64' ((↑k:Int)+(1:Int)); .A (St.mk [(1,AV.func (120:FuncId) [] [(AV.int IntKind.i64 item).cptr]),(4,AV.sref (Site.head 4 0) 0 (o.length+1)),(7,AV.tree (List.map encVersion l)),(8,AV.int IntKind.i64 (↑l.length:Int)),(9,AV.int IntKind.i64 (IntKind.i64.wrap ((↑k:Int)+1)))] [(Site.head 4 0,Blk.row 8 (List.map encVersion o++[AV.agg [AV.int IntKind.i64 v.Item,AV.int IntKind.i64 v.S.L,AV.int IntKind.i64 v.S.R,AV.int IntKind.i64 v.S.N,AV.bool v.Dead,AV.tree (List.map encAttr v.Attrs),AV.str v.Tag,AV.str v.Body]]) true true)]) (by simp[encVersion,a3]) (again ((k+(1:Nat),o++[v])) ⟨(by dsimp only;omega),⟨(by dsimp only;(clear again;(simp;omega))),(by dsimp only;(clear again;(rw[take_succ hv,List.filter_append,←k3];simp[*];done)))⟩⟩ (by dsimp only;omega)))
    (fun a0=>(a0 trivial).elim)) (fun a2=>False.elim (by omega))))
    (fun a1=>have a4:=wI64' ((↑k:Int)+(1:Int)); .A (St.mk [(1,AV.func (120:FuncId) [] [(AV.int IntKind.i64 item).cptr]),(4,AV.sref (Site.head 4 0) 0 o.length),(7,AV.tree (List.map encVersion l)),(8,AV.int IntKind.i64 (↑l.length:Int)),(9,AV.int IntKind.i64 (IntKind.i64.wrap ((↑k:Int)+1)))] [(Site.head 4 0,Blk.row 8 (List.map encVersion o) true true)]) (by simp[a4]) (again ((k+(1:Nat),o)) ⟨(by dsimp only;omega),⟨(by dsimp only;omega),(by dsimp only;(clear again;(rw[take_succ hv,List.filter_append,←k3];simp[*];done)))⟩⟩ (by dsimp only;omega))))))))
  ·rw[List.take_of_length_le (by omega)]at k3
   subst k3
   refine(.eF ((↑k:Int)<(↑l.length:Int)) (by simp only[Int.ofNat_lt]) hk .r)
theorem some_out (l:List Version) (f:Flt) (hl:l.length≤1000) (hv:∀v∈l,v.Attrs.length≤1000∧v.Tag.length≤1000) (hf:f.ok) (hs:f.short):X.call 118 [.tree (l.map encVersion),.func 119 [] [.cptr (encFlt f)]] [] ⟨.sref (.out 0) 0 (outsF f l).length,[],[.row 8 ((outsF f l).map encVersion) true true]⟩:=by
 have ha:=hv
 clear hv
 unfold outsF
 refine spec_of ok Go.Proofs.Tryz.func118 ok118 ?_
 refine ?_
 refine Sat.pLoop 2 (St.mk [(1,AV.func (119:FuncId) [] [(encFlt f).cptr]),(4,.sref
  (.head 4 0) 0 0),(7,.tree (List.map encVersion l)),(8,.int .i64 (↑(List.map encVersion l).length:Int)),(9,.int .i64 0)] [(.head 4 0,.row 8 [] true true)]) (by kernel_rfl) (fun(p:Nat×List Version)=>⟨[(1,.func 119 [] [.cptr (encFlt f)]),(4,.sref
  (.head 4 0) 0 p.2.length),(7,.tree (l.map encVersion)),(8,.int .i64 l.length),(9,.int .i64 p.1)],[(.head 4 0,.row 8 (p.2.map encVersion) true true)]⟩) (fun p=>p.1≤l.length∧p.2.length≤p.1∧p.2=(l.take p.1).filter fun v=> !f.lets v) (fun p=>l.length-p.1) (0,[]) (by simp) ?_ ?_
 ·exact⟨by simp,by simp,by simp⟩
 ·rintro⟨k,o⟩ hI again
  obtain⟨k1,k2,k3⟩:=hI
  simp only at k1 k2 k3
  by_cases hk:k<l.length
  ·obtain⟨v,hv⟩:∃v,l[k]? =some v:=⟨l[k],by simp⟩
   have hm:=ha v (List.mem_of_getElem? hv)
   have hm1:=hm.1
   have hm2:=hm.2
   refine(.et ((↑k:Int)<(↑l.length:Int)) (by simp only[Int.ofNat_lt]) hk (.T (.eh encVersion hv (.c (@Tryz.c119 (v) (f) ‹_› ‹_› ‹_› ‹_›) (.m (Flt.lets v f) (fun a1=> .c (@Tryz.c144 (v) ‹_›)
    (.i ((o.length+1)*(96:Nat)≤140737488355328) (fun a2=> .k (o.length=(List.map encVersion o).length) (True) (by simp only[List.length_map])
    (fun a0=>have a3:=wI64' ((↑k:Int)+(1:Int)); .A (St.mk [(1,AV.func (119:FuncId) [] [(encFlt f).cptr]),(4,.sref
    (.head 4 0) 0 (o.length+1)),(7,.tree (List.map encVersion l)),(8,.int .i64 (↑l.length:Int)),(9,.int .i64 (IntKind.i64.wrap ((↑k:Int)+1)))] [(.head 4 0,.row 8 (List.map encVersion o++[encVersion v]) true true)]) (by simp[encVersion,a3]) (again ((k+(1:Nat),o++[v])) ⟨(by dsimp only;omega),⟨(by dsimp only;(clear again;(simp;omega))),(by dsimp only;(clear again;(rw[take_succ hv,List.filter_append,←k3];simp[*];done)))⟩⟩ (by dsimp only;omega)))
    (fun a0=>(a0 trivial).elim)) (fun a2=>False.elim (by omega)))) (fun a1=>have a4:=wI64' ((↑k:Int)+(1:Int)); .A (St.mk [(1,AV.func (119:FuncId) [] [(encFlt f).cptr]),(4,.sref
    (.head 4 0) 0 o.length),(7,.tree (List.map encVersion l)),(8,.int .i64 (↑l.length:Int)),(9,.int .i64 (IntKind.i64.wrap ((↑k:Int)+1)))] [(.head 4 0,.row 8 (List.map encVersion o) true true)]) (by simp[a4]) (again ((k+(1:Nat),o)) ⟨(by dsimp only;omega),⟨(by dsimp only;omega),(by dsimp only;(clear again;(rw[take_succ hv,List.filter_append,←k3];simp[*];done)))⟩⟩ (by dsimp only;omega))))))))
  ·rw[List.take_of_length_le (by omega)]at k3
   subst k3
   refine(.eF ((↑k:Int)<(↑l.length:Int)) (by simp only[Int.ofNat_lt]) hk .r)
theorem c74 (l:List Version) (item:Int) (hl:l.length≤1000) (ha:∀v∈l,v.Attrs.length≤1000):X.call 74 [.tree (l.map encVersion),.int .i64 item] [] ⟨.tree ((l.filter fun v=>decide (v.Item≠item)).map encVersion),[],[]⟩:=by
 have c1:=some_without l item hl ha
 refine spec_of ok Go.Proofs.Tryz.func74 ok74 ?_
 refine(.c (@c1)
  (have _w6:List.take (List.filter (fun(v:Version)=>decide (v.Item≠item)) l).length (List.map encVersion (List.filter (fun(v:Version)=>decide (v.Item≠item)) l))=List.map encVersion (List.filter (fun(v:Version)=>decide (v.Item≠item)) l):=List.take_of_length_le (by simp); .q (Res.mk
  (.tree (List.take (List.filter (fun(v:Version)=>decide (v.Item≠item)) l).length (List.map encVersion (List.filter (fun(v:Version)=>decide (v.Item≠item)) l)))) [] []) (by simp[List.take_of_length_le];done)))
theorem c73 (l:List Version) (f:Flt) (hl:l.length≤1000) (hv:∀v∈l,v.Attrs.length≤1000∧v.Tag.length≤1000) (hf:f.ok) (hs:f.short):X.call 73 [.tree (l.map encVersion),encFlt f] [] ⟨.tree ((outsF f l).map encVersion),[],[]⟩:=by
 have c1:=some_out l f hl hv hf hs
 refine spec_of ok Go.Proofs.Tryz.func73 ok73 ?_
 refine(.c (@c1) (have _w8:List.take (outsF f l).length (List.map encVersion (outsF f l))=List.map encVersion (outsF f l):=List.take_of_length_le (by simp); .q (Res.mk
  (.tree (List.take (outsF f l).length (List.map encVersion (outsF f l)))) [] []) (by simp[List.take_of_length_le];done)))
end Go.Ab.Tryz
