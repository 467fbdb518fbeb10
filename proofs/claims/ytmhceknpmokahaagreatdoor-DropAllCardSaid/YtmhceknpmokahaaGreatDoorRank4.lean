/- Package seen: heads with another one. -/
import Derived.Test.YtmhceknpmokahaaGreatDoorOwn
import Derived.Test.YtmhceknpmokahaaGreatDoorHand
import Derived.Test.YtmhceknpmokahaaGreatDoorAbEdge
namespace Go.Ab.Tryz
open Go
set_option maxRecDepth 100000
set_option maxHeartbeats 4000000
theorem c206 (a:Int):X.call 206 [.int .i64 a] [] ⟨.bool false,[],[]⟩:=by
 refine spec_of ok Go.Proofs.Tryz.func206 ok206 ?_
 refine(.q (Res.mk (.bool !decide (a=a)) [] []) (by simp_all))
theorem c162 (a b:Int):X.call 162 [.int .i64 a,.int .i64 b] [] ⟨.int .i64 (icmp a b),[],[]⟩:=by
 refine spec_of ok Go.Proofs.Tryz.func162 ok162 ?_
 refine(.c (@Tryz.c206 (a)) (.c (@Tryz.c206 (b)) (.F (.F (.i (a<b) (fun _h3=> .q (Res.mk (.int .i64 (-1:Int)) [] []) (by(simp_all[icmp];done))) (fun _h3=> .i (b<a) (fun _h4=> .q (Res.mk
  (.int .i64 1) [] []) (by(simp_all[icmp];done))) (fun _h4=> .q (Res.mk (.int .i64 0) [] []) (by(simp_all[icmp];omega)))))))))
theorem c176 (l:List Int) (hl:l.length≤1000):X.call 176 [.tree (l.map (AV.int .i64))] [] ⟨.int .i64 ((l.find? (fun x=>decide (x≠0))).getD 0),[],[]⟩:=by
 refine spec_of ok Go.Proofs.Tryz.func176 ok176 ?_
 refine ?_
 refine Sat.pLoop 3 (St.mk [(3,.int .i64 0),(6,.tree (List.map (AV.int IntKind.i64) l)),(7,.int .i64 (↑(List.map (AV.int IntKind.i64) l).length:Int)),(8,.int .i64 0)] []) (by kernel_rfl) (fun(k:Nat)=>⟨[(3,.int .i64 0),(6,.tree (l.map (AV.int .i64))),(7,.int .i64 l.length),(8,.int .i64 k)],[]⟩) (fun k=>k≤l.length∧l.find? (fun x=>decide (x≠0))=(l.drop k).find? (fun x=>decide (x≠0))) (fun k=>l.length-k) 0 (by simp) ?_ ?_
 ·simp
 ·intro k hk again
  refine(.k ((↑k:Int)<(↑l.length:Int)) (k<l.length) (by simp only[Int.ofNat_lt]) (fun _h6=> .T (.em (AV.int IntKind.i64) l k ‹_› (fun _x7 a1=> .j (_x7=0) (fun _h9=> .q (Res.mk
   (.int .i64 _x7) [] []) (by(clear again;(rw[hk.2,drop_at ‹_›];simp_all))))
   (fun _h9=>have a0:=wI64' ((↑k:Int)+(1:Int)); .A (St.mk [(3,.int .i64 0),(6,.tree (List.map (AV.int IntKind.i64) l)),(7,.int .i64 (↑l.length:Int)),(8,.int .i64 (IntKind.i64.wrap ((↑k:Int)+1)))] []) (by simp[a0]) (again (k+(1:Nat)) (by(clear again;(rw[drop_at ‹_›]at hk;simp_all;omega))) (by omega))))))
   (fun _h6=> .q (Res.mk (.int .i64 0) [] []) (by(clear again;(rw[hk.2,List.drop_of_length_le (by omega)];rfl)))))
theorem c116 (a b:Stamp):X.call 116 [encStamp a,encStamp b] [] ⟨.int .i64 (a.cmp b),[],[]⟩:=by
 refine spec_of ok Go.Proofs.Tryz.func116 ok116 ?_
 refine(.c (@Tryz.c162 (a.L) (b.L)) (.c (@Tryz.c162 (a.R) (b.R)) (.c (@Tryz.c162 (a.N) (b.N)) (.c (@Tryz.c176 ([icmp a.L b.L,icmp a.R b.R,icmp a.N b.N]) (by show(3:Nat)≤(1000:Nat);omega))
  (.q (Res.mk (.int .i64 ((List.find? (fun(x:Int)=>decide (x≠0)) [icmp a.L b.L,icmp a.R b.R,icmp a.N b.N]).getD 0)) [] []) (by(simp only[Stamp.cmp,List.find?];grind)))))))
theorem c221 (h:Head) (item:Int):X.call 221 [encHead h,.int .i64 item] [] ⟨.int .i64 (icmp h.Item item),[],[]⟩:=by
 refine spec_of ok Go.Proofs.Tryz.func221 ok221 ?_
 refine(.c (@Tryz.c162 (h.Item) (item)) .r)
theorem icmp_lt (a b:Int):icmp a b<0↔a<b:=by unfold icmp;split<;>(try split)<;>omega
def foundAt (l:List Head) (pos:Nat) (item:Int):Bool:=match l[pos]? with|some x=>decide (x.Item=item)|none=>false
theorem c220 (l:List Head) (item:Int) (hp:l.Pairwise (fun a b=>a.Item<b.Item)) (hl:l.length≤100000):X.call 220 [.tree (l.map encHead),.int .i64 item,.func 221 [] []] [] ⟨.tuple [.int .i64 (posOf l item),.bool (foundAt l (posOf l item) item)],[],[]⟩:=by
 have hpos:=posOf_le l item
 have hs:=posOf_iff (item:=item) hp
 generalize posOf l item=pos at*
 refine spec_of ok Go.Proofs.Tryz.func220 ok220 ?_
 refine ?_
 refine Sat.pLoop 3 (St.mk [(0,.tree (List.map encHead l)),(1,.int .i64 item),(2,AV.func (221:FuncId) [] []),(8,.int .i64 (↑(List.map encHead l).length:Int)),(9,.int .i64 0),(10,.int .i64 (↑(List.map encHead l).length:Int))] []) (by kernel_rfl) (fun(p:Nat×Nat)=>⟨[(0,.tree (l.map encHead)),(1,.int .i64 item),(2,.func 221 [] []),(8,.int .i64 l.length),(9,.int .i64 p.1),(10,.int .i64 p.2)],[]⟩) (fun p=>p.1≤pos∧pos≤p.2∧p.2≤l.length) (fun p=>p.2-p.1) (0,l.length) (by simp) ?_ ?_
 ·exact⟨by omega,hpos,by omega⟩
 ·rintro⟨i,j⟩ hI again
  obtain⟨i1,i2,i3⟩:=hI
  simp only at i1 i2 i3
  refine(.k ((↑i:Int)<(↑j:Int)) (i<j) (by simp only[Int.ofNat_lt]) (fun a9=> .T
   (have a3:=wI64' ((↑i:Int)+(↑j:Int));have a4:=wU64' ((↑i:Int)+(↑j:Int));have a1:((↑i:Int)+(↑j:Int)).fdiv ((2:Int) ^ (1:Nat))=((↑i:Int)+(↑j:Int)) / (2:Int):=(Int.fdiv_eq_ediv_of_nonneg _ (by decide)).trans rfl;have a5:=wI64' (((↑i:Int)+(↑j:Int)) / (2:Int)); .k (0≤IntKind.i64.wrap ((IntKind.u64.wrap (IntKind.i64.wrap ((↑i:Int)+(↑j:Int)))).fdiv (2 ^ 1))) (0≤((↑i:Int)+(↑j:Int)) /2) (by simp only[a5,a1,a1,a4,a3])
   (fun aa=> .eM encHead l ((IntKind.i64.wrap ((IntKind.u64.wrap (IntKind.i64.wrap ((↑i:Int)+(↑j:Int)))).fdiv (2 ^ 1))).toNat) ((((↑i:Int)+(↑j:Int)) /2).toNat) (by simp only[a5,a1,a1,a4,a3]) (by omega)
   (fun a6 a7=> .c (@Tryz.c221 (a6) (item)) (.i (icmp a6.Item item<0)
   (fun a2=>have ac:=wI64' (((↑i:Int)+(↑j:Int)) / (2:Int)+(1:Int)); .A (St.mk [(0,.tree (List.map encHead l)),(1,.int .i64 item),(2,AV.func (221:FuncId) [] []),(8,.int .i64 (↑l.length:Int)),(9,.int .i64 (IntKind.i64.wrap (IntKind.i64.wrap ((IntKind.u64.wrap (IntKind.i64.wrap ((↑i:Int)+(↑j:Int)))).fdiv (2 ^ 1))+1))),(10,.int .i64 (↑j:Int))] []) (by(clear again;simp_all)) (again (((i+j) / (2:Nat)+(1:Nat),j)) ?_ (by(clear again;(dsimp only;omega)))))
   (fun a2=> .A (St.mk [(0,.tree (List.map encHead l)),(1,.int .i64 item),(2,AV.func (221:FuncId) [] []),(8,.int .i64 (↑l.length:Int)),(9,.int .i64 (↑i:Int)),(10,.int .i64 (IntKind.i64.wrap ((IntKind.u64.wrap (IntKind.i64.wrap ((↑i:Int)+(↑j:Int)))).fdiv (2 ^ 1))))] []) (by(clear again;simp_all)) (again ((i,(i+j) / (2:Nat))) ?_ (by(clear again;(dsimp only;omega))))))))
   (fun aa=>False.elim (by omega)))) (fun a9=> .k ((↑i:Int)<(↑l.length:Int)) (i<l.length) (by simp only[Int.ofNat_lt])
   (fun a0=> .et ((↑i:Int)<(↑l.length:Int)) (by simp only[Int.ofNat_lt]) a0 (.et ((↑i:Int)<(↑l.length:Int)) (by simp only[Int.ofNat_lt]) a0
   (.et ((↑i:Int)<(↑l.length:Int)) (by simp only[Int.ofNat_lt]) a0 (.T (.em encHead l i ‹_› (fun a8 ab=> .et ((↑i:Int)<(↑l.length:Int)) (by simp only[Int.ofNat_lt]) a0
   (.et ((↑i:Int)<(↑l.length:Int)) (by simp only[Int.ofNat_lt]) a0 (.et ((↑i:Int)<(↑l.length:Int)) (by simp only[Int.ofNat_lt]) a0 (.c (@Tryz.c221 (a8) (item))
   (.et ((↑i:Int)<(↑l.length:Int)) (by simp only[Int.ofNat_lt]) a0 (.et ((↑i:Int)<(↑l.length:Int)) (by simp only[Int.ofNat_lt]) a0
   (.q (Res.mk (AV.tuple [.int .i64 (↑i:Int),.bool (decide (icmp a8.Item item=0))]) [] []) ?_)))))))))))) (fun a0=> .eF ((↑i:Int)<(↑l.length:Int)) (by simp only[Int.ofNat_lt]) a0
   (.eF ((↑i:Int)<(↑l.length:Int)) (by simp only[Int.ofNat_lt]) a0 (.eF ((↑i:Int)<(↑l.length:Int)) (by simp only[Int.ofNat_lt]) a0
   (.eF ((↑i:Int)<(↑l.length:Int)) (by simp only[Int.ofNat_lt]) a0 (.eF ((↑i:Int)<(↑l.length:Int)) (by simp only[Int.ofNat_lt]) a0
   (.eF ((↑i:Int)<(↑l.length:Int)) (by simp only[Int.ofNat_lt]) a0 (.eF ((↑i:Int)<(↑l.length:Int)) (by simp only[Int.ofNat_lt]) a0
   (.eF ((↑i:Int)<(↑l.length:Int)) (by simp only[Int.ofNat_lt]) a0 (.q (Res.mk (AV.tuple [.int .i64 (↑i:Int),.bool false]) [] []) ?_)))))))))))
  ·have e:=(hs _ _ a7).2 ((icmp_lt _ _).1 a2)
   exact⟨by simp only;omega,i2,i3⟩
  ·have e:¬(((i:Int)+(j:Int)) /2).toNat<pos:=fun h=>a2 ((icmp_lt _ _).2 ((hs _ _ a7).1 h))
   exact⟨i1,by simp only;omega,by simp only;omega⟩
  ·obtain rfl:i=pos:=by omega
   unfold foundAt
   rw[ab]
   simp only[icmp_zero]
  ·obtain rfl:i=pos:=by omega
   unfold foundAt
   rw[List.getElem?_eq_none (by omega)]
theorem c177 (l:List Head) (item:Int) (hp:l.Pairwise (fun a b=>a.Item<b.Item)) (hl:l.length≤100000):X.call 177 [.tree (l.map encHead),.int .i64 item] [] ⟨.tuple [.int .i64 (posOf l item),.bool (foundAt l (posOf l item) item)],[],[]⟩:=by
 refine spec_of ok Go.Proofs.Tryz.func177 ok177 ?_
 refine(.c (@Tryz.c220 (l) (item) ‹_› ‹_›) .r)
theorem foundAt_some {l:List Head} {pos:Nat} {item:Int} (h:foundAt l pos item=true):∃x,l[pos]? =some x∧x.Item=item:=by
 unfold foundAt at h
 split at h
 ·rename_i x hx;exact⟨x,hx,by simpa using h⟩
 ·cases h
theorem foundAt_none {l:List Head} {pos:Nat} {item:Int} (h:foundAt l pos item=false):∀x,l[pos]? =some x→x.Item≠item:=fun x hx=>by
 unfold foundAt at h
 rw[hx]at h
 simpa using h
theorem c117 (l:List Head) (item:Int) (hp:l.Pairwise (fun a b=>a.Item<b.Item)) (hl:l.length≤100000):X.call 117 [.tree (l.map encHead),.int .i64 item] [] ⟨encStamp (headAt l item),[],[]⟩:=by
 have hc:=c177 l item hp hl
 cases hf:foundAt l (posOf l item) item with
 |true=>
  obtain⟨x,hx,hi⟩:=foundAt_some hf
  rw[headAt_found hp hx hi]
  rw[hf]at hc
  generalize posOf l item=pos at*
  have hlt:=(List.getElem?_eq_some_iff.1 hx).1
  refine spec_of ok Go.Proofs.Tryz.func117 ok117 ?_
  refine(.c (@hc) (.F (.T (.eh encHead hx .r))))
 |false=>
  rw[headAt_none hp (foundAt_none hf)]
  rw[hf]at hc
  refine spec_of ok Go.Proofs.Tryz.func117 ok117 ?_
  refine(.c (@hc) (.T .r))
end Go.Ab.Tryz
namespace Go.Ab.Tryz
open Go
set_option maxRecDepth 100000
set_option maxHeartbeats 4000000
end Go.Ab.Tryz
