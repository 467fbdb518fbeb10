/- Package eval: what a filter lets through. -/
import Derived.Test.YtmhceknpmokahaaGreatDoorOwn
import Derived.Test.YtmhceknpmokahaaGreatDoorRef1f
import Derived.Test.YtmhceknpmokahaaGreatDoorAbEdge
namespace Go.Ab.Tryz
open Go
set_option maxRecDepth 100000
set_option maxHeartbeats 4000000
theorem c195 (a:Attr) (key:Int):X.call 195 [encAttr a,.cptr (.int .i64 key)] [] ⟨.bool (decide (a.Key=key)),[],[]⟩:=by
 refine spec_of ok Go.Proofs.Tryz.func195 ok195 ?_
 refine .r
theorem c194 (l:List Attr) (key:Int) (hl:l.length≤1000):X.call 194 [.tree (l.map encAttr),.func 195 [] [.cptr (.int .i64 key)]] [] ⟨.int .i64 (idxOf (fun a=>decide (a.Key=key)) l),[],[]⟩:=by
 refine spec_of ok Go.Proofs.Tryz.func194 ok194 ?_
 refine ?_
 refine Sat.pLoop 2 (St.mk [(0,AV.tree (List.map encAttr l)),(1,AV.func (195:FuncId) [] [(AV.int IntKind.i64 key).cptr]),(7,AV.int IntKind.i64 (↑(List.map encAttr l).length:Int)),(8,AV.int IntKind.i64 0)] []) (by kernel_rfl) (fun(k:Nat)=>⟨[(0,.tree (l.map encAttr)),(1,.func 195 [] [.cptr
  (.int .i64 key)]),(7,.int .i64 l.length),(8,.int .i64 k)],[]⟩) (fun k=>k≤l.length∧(l.take k).any (fun a=>decide (a.Key=key))=false) (fun k=>l.length-k) 0 (by simp) ?_ ?_
 ·simp
 ·intro k hI again
  have hk:=hI.1
  have hn:=hI.2
  clear hI
  refine(.k ((↑k:Int)<(↑l.length:Int)) (k<l.length) (by simp only[Int.ofNat_lt]) (fun _h9=> .T (.em encAttr l k (by assumption) (fun a0 a3=> .c (@Go.Ab.Tryz.c195 (a0) (key))
   (.i (a0.Key=key) (fun a1=> .q (Res.mk (AV.int IntKind.i64 (↑k:Int)) [] []) (by(clear again;(rw[idxOf_found (by assumption) (by simp[*]) hn]))))
   (fun a1=>have a2:=wI64' ((↑k:Int)+(1:Int)); .A (St.mk [(0,AV.tree (List.map encAttr l)),(1,AV.func (195:FuncId) [] [(AV.int IntKind.i64 key).cptr]),(7,AV.int IntKind.i64 (↑l.length:Int)),(8,AV.int IntKind.i64 (IntKind.i64.wrap ((↑k:Int)+1)))] []) (by simp[a2]) (again (k+(1:Nat)) ⟨(by omega),(by(clear again;(exact any_next (by assumption) (by simp[*]) hn)))⟩ (by omega)))))))
   (fun _h9=> .q (Res.mk (AV.int IntKind.i64 (-1:Int)) [] []) (by(clear again;(rw[List.take_of_length_le (by omega)]at hn;rw[idxOf_none hn])))))
theorem attr_idx (l:List Attr) (key:Int):(idxOf (fun a=>decide (a.Key=key)) l<0∧attrOf l key=none)∨∃(k:Nat) (a:Attr),idxOf (fun a=>decide (a.Key=key)) l=k∧l[k]? =some a∧attrOf l key=some a.Val:=by
 induction l with
 |nil=>exact .inl ⟨by simp[idxOf],rfl⟩
 |cons x l ih=>
  unfold idxOf attrOf
  rw[List.find?_cons]
  by_cases c:x.Key=key
  ·exact .inr ⟨0,x,by simp[c],rfl,by simp[c]⟩
  ·simp only[c,decide_false,Bool.false_eq_true,if_false]
   rcases ih with⟨h1,h2⟩|⟨k,a,h1,h2,h3⟩
   ·exact .inl ⟨by rw[if_pos h1];omega,h2⟩
   ·exact .inr ⟨k+1,a,by rw[h1,if_neg (by omega)];omega,h2,h3⟩
theorem c152 (v:Version) (key:Int) (hl:v.Attrs.length≤1000):X.call 152 [encVersion v,.int .i64 key] [] ⟨.tuple [.int .i64 ((attrOf v.Attrs key).getD 0),.bool (attrOf v.Attrs key).isSome],[],[]⟩:=by
 have cI:=c194 v.Attrs key hl
 rcases attr_idx v.Attrs key with⟨h1,h2⟩|⟨k,a,h1,h2,h3⟩
 ·rw[h2]
  generalize idxOf (fun a=>decide (a.Key=key)) v.Attrs=i at*
  refine spec_of ok Go.Proofs.Tryz.func152 ok152 ?_
  refine(.c (@cI) (.it h1 .r))
 ·rw[h3]
  rw[h1]at cI
  have hlt:=(List.getElem?_eq_some_iff.1 h2).1
  refine spec_of ok Go.Proofs.Tryz.func152 ok152 ?_
  refine(.c (@cI) (.F (.T (.eh encAttr h2 .r))))
theorem c196 (s t:List UInt8) (hs:s.length≤100000) (ht:t.length≤100000):X.call 196 [.str s,.str t] [] ⟨.bool (begins s t),[],[]⟩:=by
 refine spec_of ok Go.Proofs.Tryz.func196 ok196 ?_
 refine(.k ((↑t.length:Int)≤(↑s.length:Int)) (t.length≤s.length) (by simp only[Int.ofNat_le]) (fun _h5=> .et ((↑t.length:Int)≤(↑s.length:Int)) (by simp only[Int.ofNat_le]) _h5
  (.et ((↑t.length:Int)≤(↑s.length:Int)) (by simp only[Int.ofNat_le]) _h5 (.et ((↑t.length:Int)≤(↑s.length:Int)) (by simp only[Int.ofNat_le]) _h5
  (.k (0≤(↑t.length:Int)∧(↑t.length:Int)≤(↑s.length:Int)) (0≤t.length∧t.length≤s.length) (by simp only[Int.ofNat_le,ciLe])
  (fun _h6=> .et ((↑t.length:Int)≤(↑s.length:Int)) (by simp only[Int.ofNat_le]) _h5 (.et ((↑t.length:Int)≤(↑s.length:Int)) (by simp only[Int.ofNat_le]) _h5
  (.et ((↑t.length:Int)≤(↑s.length:Int)) (by simp only[Int.ofNat_le]) _h5 (.q (Res.mk (.bool (decide (List.take (↑t.length:Int).toNat s=t))) [] []) (by(simp_all[begins];done))))))
  (fun _h6=>False.elim (by omega)))))) (fun _h5=> .eF ((↑t.length:Int)≤(↑s.length:Int)) (by simp only[Int.ofNat_le]) _h5
  (.eF ((↑t.length:Int)≤(↑s.length:Int)) (by simp only[Int.ofNat_le]) _h5 (.eF ((↑t.length:Int)≤(↑s.length:Int)) (by simp only[Int.ofNat_le]) _h5
  (.eF ((↑t.length:Int)≤(↑s.length:Int)) (by simp only[Int.ofNat_le]) _h5 (.eF ((↑t.length:Int)≤(↑s.length:Int)) (by simp only[Int.ofNat_le]) _h5
  (.eF ((↑t.length:Int)≤(↑s.length:Int)) (by simp only[Int.ofNat_le]) _h5 (.q (Res.mk (.bool false) [] []) (by(simp[begins];omega))))))))))
theorem c153 (s t:List UInt8) (hs:s.length≤100000) (ht:t.length≤100000):X.call 153 [.str s,.str t] [] ⟨.bool (begins s t),[],[]⟩:=by
 refine spec_of ok Go.Proofs.Tryz.func153 ok153 ?_
 refine(.c (@Tryz.c196 (s) (t) ‹_› ‹_›) .r)
theorem lets_one (x:Flt) (v:Version) (b:Bool) (hx:X.call 100 [encFlt x,encVersion v] [] ⟨.bool b,[],[]⟩):X.call 151 [encFlt x,.cptr (encVersion v)] [] ⟨.bool b,[],[]⟩:=by
 refine spec_of ok Go.Proofs.Tryz.func151 ok151 ?_
 refine(.c (@hx) .r)
theorem lets_not (x:Flt) (v:Version) (b:Bool) (hx:X.call 100 [encFlt x,encVersion v] [] ⟨.bool b,[],[]⟩):X.call 155 [encFlt x,.cptr (.func 151 [] [.cptr (encVersion v)])] [] ⟨.bool (!b),[],[]⟩:=by
 have c1:=lets_one x v b hx
 refine spec_of ok Go.Proofs.Tryz.func155 ok155 ?_
 refine(.c (@c1) .r)
theorem index_yes (l:List Flt) (v:Version) (hl:l.length≤100) (hall:∀x∈l,X.call 100 [encFlt x,encVersion v] [] ⟨.bool (x.lets v),[],[]⟩):X.call 197 [.tree (l.map encFlt),.func 151 [] [.cptr (encVersion v)]] [] ⟨.int .i64 (idxOf (fun x=>x.lets v) l),[],[]⟩:=by
 refine spec_of ok Go.Proofs.Tryz.func197 ok197 ?_
 refine ?_
 refine Sat.pLoop 2 (St.mk [(0,.tree (List.map encFlt l)),(1,AV.func (151:FuncId) [] [(encVersion v).cptr]),(7,.int .i64 (↑(List.map encFlt l).length:Int)),(8,.int .i64 0)] []) (by kernel_rfl) (fun(k:Nat)=>⟨[(0,.tree (l.map encFlt)),(1,.func 151 [] [.cptr (encVersion v)]),(7,.int .i64 l.length),(8,.int .i64 k)],[]⟩) (fun k=>k≤l.length∧(l.take k).any (fun x=>x.lets v)=false) (fun k=>l.length-k) 0 (by simp) ?_ ?_
 ·simp
 ·intro k hI again
  have hk:=hI.1
  have hn:=hI.2
  clear hI
  by_cases hkl:k<l.length
  ·obtain⟨x,hx⟩:∃x,l[k]? =some x:=⟨l[k],by simp⟩
   have c1:=lets_one x v _ (hall x (List.mem_of_getElem? hx))
   refine(.et ((↑k:Int)<(↑l.length:Int)) (by simp only[Int.ofNat_lt]) hkl (.T (.eh encFlt hx (.c (@c1) (.n (Flt.lets v x) (fun a0=> .q (Res.mk
    (.int .i64 (↑k:Int)) [] []) (by(clear hall again c1;(rw[idxOf_found hx (by simp[*]) hn]))))
    (fun a0=>have a1:=wI64' ((↑k:Int)+(1:Int)); .A (St.mk [(0,.tree (List.map encFlt l)),(1,AV.func (151:FuncId) [] [(encVersion v).cptr]),(7,.int .i64 (↑l.length:Int)),(8,.int .i64 (IntKind.i64.wrap ((↑k:Int)+1)))] []) (by simp[a1]) (again (k+(1:Nat)) ⟨(by omega),(by(clear hall again c1;(exact any_next hx (by simp[*]) hn)))⟩ (by omega))))))))
  ·rw[List.take_of_length_le (by omega)]at hn
   rw[idxOf_none hn]
   refine(.eF ((↑k:Int)<(↑l.length:Int)) (by simp only[Int.ofNat_lt]) hkl .r)
theorem index_no (l:List Flt) (v:Version) (hl:l.length≤100) (hall:∀x∈l,X.call 100 [encFlt x,encVersion v] [] ⟨.bool (x.lets v),[],[]⟩):X.call 197 [.tree (l.map encFlt),.func 155 [] [.cptr (.func 151 [] [.cptr (encVersion v)])]] [] ⟨.int .i64 (idxOf (fun x=> !x.lets v) l),[],[]⟩:=by
 refine spec_of ok Go.Proofs.Tryz.func197 ok197 ?_
 refine ?_
 refine Sat.pLoop 2 (St.mk [(0,.tree (List.map encFlt l)),(1,AV.func (155:FuncId) [] [(AV.func (151:FuncId) [] [(encVersion v).cptr]).cptr]),(7,.int .i64 (↑(List.map encFlt l).length:Int)),(8,.int .i64 0)] []) (by kernel_rfl) (fun(k:Nat)=>⟨[(0,.tree (l.map encFlt)),(1,.func 155 [] [.cptr
  (.func 151 [] [.cptr (encVersion v)])]),(7,.int .i64 l.length),(8,.int .i64 k)],[]⟩) (fun k=>k≤l.length∧(l.take k).any (fun x=> !x.lets v)=false) (fun k=>l.length-k) 0 (by simp) ?_ ?_
 ·simp
 ·intro k hI again
  have hk:=hI.1
  have hn:=hI.2
  clear hI
  by_cases hkl:k<l.length
  ·obtain⟨x,hx⟩:∃x,l[k]? =some x:=⟨l[k],by simp⟩
   have c1:=lets_not x v _ (hall x (List.mem_of_getElem? hx))
   refine(.et ((↑k:Int)<(↑l.length:Int)) (by simp only[Int.ofNat_lt]) hkl (.T (.eh encFlt hx (.c (@c1) (.m (Flt.lets v x) (fun a0=> .q (Res.mk
    (.int .i64 (↑k:Int)) [] []) (by(clear hall again c1;(rw[idxOf_found hx (by simp[*]) hn]))))
    (fun a0=>have a1:=wI64' ((↑k:Int)+(1:Int)); .A (St.mk [(0,.tree (List.map encFlt l)),(1,AV.func (155:FuncId) [] [(AV.func (151:FuncId) [] [(encVersion v).cptr]).cptr]),(7,.int .i64 (↑l.length:Int)),(8,.int .i64 (IntKind.i64.wrap ((↑k:Int)+1)))] []) (by simp[a1]) (again (k+(1:Nat)) ⟨(by omega),(by(clear hall again c1;(exact any_next hx (by simp[*]) hn)))⟩ (by omega))))))))
  ·rw[List.take_of_length_le (by omega)]at hn
   rw[idxOf_none hn]
   refine(.eF ((↑k:Int)<(↑l.length:Int)) (by simp only[Int.ofNat_lt]) hkl .r)
theorem flt_any (l:List Flt) (v:Version) (hl:l.length≤100) (hall:∀x∈l,X.call 100 [encFlt x,encVersion v] [] ⟨.bool (x.lets v),[],[]⟩):X.call 154 [.tree (l.map encFlt),.func 151 [] [.cptr (encVersion v)]] [] ⟨.bool (l.any fun x=>x.lets v),[],[]⟩:=by
 have c1:=index_yes l v hl hall
 refine spec_of ok Go.Proofs.Tryz.func154 ok154 ?_
 refine(.c (@c1) (.q (Res.mk (.bool (decide (0≤idxOf (fun(x:Flt)=>Flt.lets v x) l))) [] []) (by(clear hall c1;(rw[idxOf_dec])))))
theorem flt_none (l:List Flt) (v:Version) (hl:l.length≤100) (hall:∀x∈l,X.call 100 [encFlt x,encVersion v] [] ⟨.bool (x.lets v),[],[]⟩):X.call 154 [.tree (l.map encFlt),.func 155 [] [.cptr (.func 151 [] [.cptr (encVersion v)])]] [] ⟨.bool (l.any fun x=> !x.lets v),[],[]⟩:=by
 have c1:=index_no l v hl hall
 refine spec_of ok Go.Proofs.Tryz.func154 ok154 ?_
 refine(.c (@c1) (.q (Res.mk (.bool (decide (0≤idxOf (fun(x:Flt)=> !Flt.lets v x) l))) [] []) (by(clear hall c1;(rw[idxOf_dec])))))
theorem c100 (v:Version) (hv:v.Attrs.length≤1000) (ht:v.Tag.length≤1000):∀(f:Flt),f.ok→f.short→X.call 100 [encFlt f,encVersion v] [] ⟨.bool (f.lets v),[],[]⟩
 | .leaf o k l h t,hk,hs=>by
  rw[encFlt_leaf]
  simp only[Flt.ok,Flt.short]at hk hs
  refine spec_of ok Go.Proofs.Tryz.func100 ok100 ?_
  refine(.i (o=1) (fun a8=> .q (Res.mk (.bool true) [] []) (by(simp_all[Flt.lets];done))) (fun a8=> .i (o=2) (fun a9=> .c (@Tryz.c152 (v) (k) ‹_›) (.n ((attrOf v.Attrs k).isSome)
   (fun a1=> .t a1 (.t a1 (.t a1 (.t a1 (.i (l≤(attrOf v.Attrs k).getD 0) (fun a2=> .it a2 (.it a2 (.it a2 (.it a2 (.q (Res.mk
   (.bool (decide ((attrOf v.Attrs k).getD 0≤h))) [] []) (by grind [Flt.lets])))))) (fun a2=> .iF a2 (.iF a2 (.iF a2 (.iF a2 (.q (Res.mk (.bool false) [] []) (by grind [Flt.lets])))))))))))
   (fun a1=> .f a1 (.f a1 (.f a1 (.f a1 (.F (.F (.F (.F (.F (.q (Res.mk (.bool false) [] []) (by(simp_all[Flt.lets];done)))))))))))))) (fun a9=> .i (o=3)
   (fun aa=> .c (@Tryz.c152 (v) (k) ‹_›) (.n ((attrOf v.Attrs k).isSome) (fun a3=> .t a3 (.t a3 (.t a3 (.t a3 (.i (l≤(attrOf v.Attrs k).getD 0) (fun a0=> .it a0 (.it a0 (.it a0
   (.it a0 (.q (Res.mk (.bool (decide ((attrOf v.Attrs k).getD 0≤h))) [] []) (by grind [Flt.lets])))))) (fun a0=> .iF a0 (.iF a0 (.iF a0 (.iF a0 (.q (Res.mk
   (.bool false) [] []) (by grind [Flt.lets]))))))))))) (fun a3=> .f a3 (.f a3 (.f a3 (.f a3 (.F (.F (.F (.F (.F (.q (Res.mk (.bool false) [] []) (by(simp_all[Flt.lets];done))))))))))))))
   (fun aa=> .i (o=4) (fun a4=> .c (@Tryz.c153 (v.Tag) (t) (by omega) ‹_›) (.q (Res.mk (.bool (begins v.Tag t)) [] []) (by(simp_all[Flt.lets];done)))) (fun a4=> .i (o=5)
   (fun a5=>False.elim (by omega)) (fun a5=> .i (o=6) (fun a6=>False.elim (by omega)) (fun a6=> .i (o=7) (fun a7=>False.elim (by omega)) (fun a7=> .q (Res.mk
   (.bool false) [] []) (by(simp_all[Flt.lets];done))))))))))
 | .one a,hk,hs=>by
  have ih:=c100 v hv ht a hk hs
  have c1:=flt_any [a] v (by simp) (by simpa using ih)
  rw[encFlt_one]
  simp only[List.map_cons,List.map_nil,List.any_cons,List.any_nil,Bool.or_false]at c1
  clear ih
  refine spec_of ok Go.Proofs.Tryz.func100 ok100 ?_
  refine(.F (.F (.F (.F (.F (.F (.T (.c (@c1) .r))))))))
 | .two o a b,hk,hs=>by
  have ih:=c100 v hv ht a hk.2.1 hs.1
  have ih2:=c100 v hv ht b hk.2.2 hs.2
  have hall:∀x∈[a,b],X.call 100 [encFlt x,encVersion v] [] ⟨.bool (x.lets v),[],[]⟩:=fun x hx=>by
   rcases List.mem_cons.1 hx with rfl|hx
   ·exact ih
   ·rw[List.mem_singleton.1 hx];exact ih2
  have c1:=flt_any [a,b] v (by simp) hall
  have c2:=flt_none [a,b] v (by simp) hall
  have ho:=hk.1
  rw[encFlt_two]
  simp only[List.map_cons,List.map_nil,List.any_cons,List.any_nil,Bool.or_false]at c1 c2
  clear ih ih2 hall
  refine spec_of ok Go.Proofs.Tryz.func100 ok100 ?_
  refine(.i (o=1) (fun a0=>False.elim (by omega)) (fun a0=> .i (o=2) (fun a4=>False.elim (by omega)) (fun a4=> .i (o=3) (fun a5=>False.elim (by omega)) (fun a5=> .i (o=4)
   (fun a6=>False.elim (by omega)) (fun a6=> .i (o=5) (fun a7=> .c (@c2) (.q (Res.mk (.bool !(!Flt.lets v a|| !Flt.lets v b)) [] []) (by(clear c1 c2;(simp_all[Flt.lets];done)))))
   (fun a7=> .i (o=6) (fun ab=> .c (@c1) (.q (Res.mk (.bool (Flt.lets v a||Flt.lets v b)) [] []) (by(clear c1 c2;(simp_all[Flt.lets];done))))) (fun ab=>False.elim (by omega))))))))
end Go.Ab.Tryz
