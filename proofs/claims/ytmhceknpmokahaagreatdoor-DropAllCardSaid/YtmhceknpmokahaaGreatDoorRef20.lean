/- Package cardamomref20: what is on its way, as plain Lean. -/
import Derived.Test.YtmhceknpmokahaaGreatDoorRef1f
namespace Go.Ab.Tryz
open Go
set_option maxRecDepth 100000
set_option maxHeartbeats 4000000
theorem c167 (l:List Gram) (g:Gram) (hl:l.length≤20):X.call 167 [.tree (l.map encGram),encGram g] [] ⟨.tuple [.tree ((netSend l g).map encGram),.bool (decide (l.length<20))],[],[]⟩:=by
 refine spec_of ok Go.Proofs.Tryz.func167 ok167 ?_
 refine(.k (20≤(↑(List.map encGram l).length:Int)) (20≤l.length) (by simp only[List.length_map,ciLe])
  (fun _h4=> .q (Res.mk (AV.tuple [.tree (List.map encGram l),.bool false]) [] []) (by grind [netSend])) (fun _h4=> .b (.b (.z encGram l 4 (fun _=>rfl)
  (.k ((0+(List.map encGram l).length)*(40:Nat)≤140737488355328) ((0+l.length)*(40:Nat)≤140737488355328) (by simp only[List.length_map]) (fun _h5=> .T
  (.k ((0+(List.map encGram l).length+1)*(40:Nat)≤140737488355328) ((0+l.length+1)*(40:Nat)≤140737488355328) (by simp only[List.length_map])
  (fun _h6=> .k (0+(List.map encGram l).length=(List.map encGram l).length) (0+l.length=l.length) (by simp only[List.length_map])
  (fun _h7=>have _w8:List.take ((0:Nat)+(List.map encGram l).length+(1:Nat)) (List.map encGram l++[encGram g])=List.map encGram l++[encGram g]:=List.take_of_length_le (by simp); .q (Res.mk (AV.tuple [.tree (List.take (0+(List.map encGram l).length+1) (List.map encGram l++[encGram g])),.bool true]) [] []) (by grind [netSend]))
  (fun _h7=>False.elim (by omega))) (fun _h6=>False.elim (by omega)))) (fun _h5=>False.elim (by omega)))) (.z encGram l 4 (fun _=>rfl)
  (.k ((0+(List.map encGram l).length)*(40:Nat)≤140737488355328) ((0+l.length)*(40:Nat)≤140737488355328) (by simp only[List.length_map]) (fun _h9=> .T
  (.k ((0+(List.map encGram l).length+1)*(40:Nat)≤140737488355328) ((0+l.length+1)*(40:Nat)≤140737488355328) (by simp only[List.length_map])
  (fun a0=> .k (0+(List.map encGram l).length=(List.map encGram l).length) (0+l.length=l.length) (by simp only[List.length_map])
  (fun a1=>have a5:List.take ((0:Nat)+(List.map encGram l).length+(1:Nat)) (List.map encGram l++[encGram g])=List.map encGram l++[encGram g]:=List.take_of_length_le (by simp); .q (Res.mk (AV.tuple [.tree (List.take (0+(List.map encGram l).length+1) (List.map encGram l++[encGram g])),.bool true]) [] []) (by grind [netSend]))
  (fun a1=>False.elim (by omega))) (fun a0=>False.elim (by omega)))) (fun _h9=>False.elim (by omega))))) (.z encGram l 4 (fun _=>rfl)
  (.k ((0+(List.map encGram l).length)*(40:Nat)≤140737488355328) ((0+l.length)*(40:Nat)≤140737488355328) (by simp only[List.length_map]) (fun a2=> .T
  (.k ((0+(List.map encGram l).length+1)*(40:Nat)≤140737488355328) ((0+l.length+1)*(40:Nat)≤140737488355328) (by simp only[List.length_map])
  (fun a3=> .k (0+(List.map encGram l).length=(List.map encGram l).length) (0+l.length=l.length) (by simp only[List.length_map])
  (fun a4=>have a6:List.take ((0:Nat)+(List.map encGram l).length+(1:Nat)) (List.map encGram l++[encGram g])=List.map encGram l++[encGram g]:=List.take_of_length_le (by simp); .q (Res.mk (AV.tuple [.tree (List.take (0+(List.map encGram l).length+1) (List.map encGram l++[encGram g])),.bool true]) [] []) (by grind [netSend]))
  (fun a4=>False.elim (by omega))) (fun a3=>False.elim (by omega)))) (fun a2=>False.elim (by omega))))))
theorem c168 (l:List Gram) (i:Int) (hl:l.length≤20):X.call 168 [.tree (l.map encGram),.int .i64 i] [] ⟨.tuple [.tree ((netComes l i).1.map encGram),encGram (netComes l i).2.1,.bool (netComes l i).2.2],[],[]⟩:=by
 rcases Int.lt_or_le i 0 with hi|hi
 ·refine spec_of ok Go.Proofs.Tryz.func168 ok168 ?_
  refine(.it hi (.it hi (.it hi (.it hi (.it hi (.T
   (.q (Res.mk (AV.tuple [.tree (List.map encGram l),.agg [.int .i64 0,.int .i64 0,.str [],.bool false],.bool false]) [] []) (by(rw[show netComes l i=(l,⟨0,0,[],false⟩,false)from if_neg (by omega)];rfl)))))))))
 ·obtain⟨n,rfl⟩:=Int.eq_ofNat_of_zero_le hi
  have e1:((n:Int)+1).toNat=n+1:=by omega
  refine spec_of ok Go.Proofs.Tryz.func168 ok168 ?_
  refine(.F (.F (.F (.F (.F (.k ((↑(List.map encGram l).length:Int)≤(↑n:Int)) (l.length≤n) (by simp only[List.length_map,Int.ofNat_le])
   (fun _h8=> .q (Res.mk (AV.tuple [.tree (List.map encGram l),.agg [.int .i64 0,.int .i64 0,.str [],.bool false],.bool false]) [] []) (by(rw[show netComes l (n:Int)=(l,⟨0,0,[],false⟩,false)from if_neg (by omega)];rfl)))
   (fun _h8=> .k (0≤(↑n:Int)∧(↑n:Int)≤(↑(List.map encGram l).length:Int)) (0≤n∧n≤l.length) (by simp only[List.length_map,Int.ofNat_le,ciLe]) (fun _h9=> .z encGram l 4 (fun _=>rfl)
   (have a0:=wI64' ((↑n:Int)+(1:Int)); .k (0≤IntKind.i64.wrap ((↑n:Int)+1)∧IntKind.i64.wrap ((↑n:Int)+1)≤(↑(List.map encGram l).length:Int)) (0≤(↑n:Int)+1∧(↑n:Int)+1≤(↑l.length:Int)) (by simp only[List.length_map,a0])
   (fun a1=> .T (.em encGram l n (by omega) (fun a2 a6=>Sat.pEszM (encGram) (List.take (↑n:Int).toNat l) (List.take (↑n:Int).toNat (List.map encGram l)) (4) (by kernel_rfl) (by simp)
   (fun _=>rfl)
   (.k ((0+(List.take (↑n:Int).toNat (List.map encGram l)).length)*(40:Nat)≤140737488355328) ((0+Min.min n l.length)*(40:Nat)≤140737488355328) (by simp only[List.length_map,List.length_take,Int.toNat_natCast])
   (fun a3=> .T (Sat.pEszM (encGram) (List.drop ((↑n:Int)+(1:Int)).toNat l) (List.drop (IntKind.i64.wrap ((↑n:Int)+(1:Int))).toNat (List.map encGram l)) (4) (by kernel_rfl) (by simp[a0])
   (fun _=>rfl)
   (.k ((0+(List.take (↑n:Int).toNat (List.map encGram l)).length+(List.drop (IntKind.i64.wrap ((↑n:Int)+1)).toNat (List.map encGram l)).length)*(40:Nat)≤140737488355328) ((0+Min.min n l.length+(l.length-((↑n:Int)+1).toNat))*(40:Nat)≤140737488355328) (by simp only[List.length_map,List.length_take,List.length_drop,Int.toNat_natCast,a0])
   (fun a4=> .k (0+(List.take (↑n:Int).toNat (List.map encGram l)).length=(List.take (↑n:Int).toNat (List.map encGram l)).length) (0+Min.min n l.length=Min.min n l.length) (by simp only[List.length_map,List.length_take,Int.toNat_natCast])
   (fun a5=>have a7:List.take ((0:Nat)+(List.take (↑n:Int).toNat (List.map encGram l)).length+(List.drop ((↑n:Int)+(1:Int)).toNat (List.map encGram l)).length) (List.take (↑n:Int).toNat (List.map encGram l)++List.drop ((↑n:Int)+(1:Int)).toNat (List.map encGram l))=List.take (↑n:Int).toNat (List.map encGram l)++List.drop ((↑n:Int)+(1:Int)).toNat (List.map encGram l):=List.take_of_length_le (by simp); .q (Res.mk (AV.tuple [.tree (List.take (0+(List.take (↑n:Int).toNat (List.map encGram l)).length+(List.drop (IntKind.i64.wrap ((↑n:Int)+1)).toNat (List.map encGram l)).length) (List.take (↑n:Int).toNat (List.map encGram l)++List.drop (IntKind.i64.wrap ((↑n:Int)+1)).toNat (List.map encGram l))),encGram a2,.bool true]) [] []) (by(simp_all[netComes,encGram,List.eraseIdx_eq_take_drop_succ,List.getD,List.take_of_length_le];done)))
   (fun a5=>False.elim (by omega))) (fun a4=>False.elim (by omega))))) (fun a3=>False.elim (by omega)))))) (fun a1=>False.elim (by omega)))) (fun _h9=>False.elim (by omega)))))))))
theorem c172 (l:List Gram) (i:Int) (hl:l.length≤20):X.call 172 [.tree (l.map encGram),.int .i64 i] [] ⟨.tuple [.tree ((netComes l i).1.map encGram),.bool (netComes l i).2.2],[],[]⟩:=by
 refine spec_of ok Go.Proofs.Tryz.func172 ok172 ?_
 refine(.c (@Tryz.c168 (l) (i) ‹_›) .r)
theorem c173 (l:List Gram) (i:Int) (hl:l.length≤20):X.call 173 [.tree (l.map encGram),.int .i64 i] [] ⟨.tuple [.tree ((netTwice l i).map encGram),.bool (decide (0≤i∧i<l.length∧l.length<20))],[],[]⟩:=by
 refine spec_of ok Go.Proofs.Tryz.func173 ok173 ?_
 refine(.i (i<0) (fun _h4=> .it _h4 (.it _h4 (.it _h4 (.it _h4 (.T (.q (Res.mk (AV.tuple [.tree (List.map encGram l),.bool false]) [] []) (by grind [netTwice]))))))) (fun _h4=> .iF _h4 (.iF _h4
  (.iF _h4 (.iF _h4 (.k ((↑(List.map encGram l).length:Int)≤i) ((↑l.length:Int)≤i) (by simp only[List.length_map])
  (fun _h5=> .q (Res.mk (AV.tuple [.tree (List.map encGram l),.bool false]) [] []) (by grind [netTwice])) (fun _h5=> .i (0≤i) (fun _h6=> .em encGram l i.toNat (by omega)
  (fun _x7 a0=> .c (@Tryz.c167 (l) (_x7) ‹_›) (.q (Res.mk (AV.tuple [.tree (List.map encGram (netSend l _x7)),.bool (decide (l.length<20))]) [] []) (by(simp_all[netTwice];done)))))
  (fun _h6=>False.elim (by omega)))))))))
theorem getElem_at {T:Type} {l:List T} {k:Nat} {x:T} (h:l[k]? =some x) (hk:k<l.length):l[k]=x:=by
 rw[List.getElem?_eq_getElem hk]at h;exact Option.some.inj h
theorem netTurned_same {l:List Gram} {i to:Int} {g:Gram} (hx:l[i.toNat]? =some g) (h0:0≤i) (ht:g.Turned=false) (hc:g.B= [] ∨to<0∨to%256=0):netTurned l i to=(l,true):=by
 have hk:i.toNat<l.length:=(List.getElem?_eq_some_iff.1 hx).1
 unfold netTurned
 rw[dif_pos (by omega)]
 simp only[getElem_at hx hk,ht,Bool.false_eq_true,if_false,hc,if_true]
theorem netTurned_yes {l:List Gram} {i to:Int} {g:Gram} (hx:l[i.toNat]? =some g) (h0:0≤i) (ht:g.Turned=false) (h1:¬to<0) (h2:¬to%256=0) (h3:¬g.B= []):netTurned l i to=(l.set i.toNat { g with B:=turnB g.B to,Turned:=true },true):=by
 have hk:i.toNat<l.length:=(List.getElem?_eq_some_iff.1 hx).1
 unfold netTurned
 rw[dif_pos (by omega)]
 simp only[getElem_at hx hk,ht,Bool.false_eq_true,if_false,h1,h2,h3,or_self]
theorem map_set_same {l:List Gram} {n:Nat} {x:Gram} (h:l[n]? =some x):(l.map encGram).set n (encGram x)=l.map encGram:=by
 rw[←List.map_set]
 congr 1
 have hk:n<l.length:=(List.getElem?_eq_some_iff.1 h).1
 rw[←getElem_at h hk];exact List.set_getElem_self hk
theorem c174 (l:List Gram) (i to:Int) (hl:l.length≤20) (ht:to<1000000):X.call 174 [.tree (l.map encGram),.int .i64 i,.int .i64 to] [] ⟨.tuple [.tree ((netTurned l i to).1.map encGram),.bool (netTurned l i to).2],[],[]⟩:=by
 refine spec_of ok Go.Proofs.Tryz.func174 ok174 ?_
 refine(.i (i<0) (fun _h6=> .it _h6 (.it _h6 (.it _h6 (.it _h6 (.T (.T (.T (.T (.T (.T (.T (.q (Res.mk (AV.tuple [.tree (List.map encGram l),.bool false]) [] []) (by grind [netTurned])))))))))))))
  (fun _h6=> .iF _h6 (.iF _h6 (.iF _h6 (.iF _h6 (.k ((↑(List.map encGram l).length:Int)≤i) ((↑l.length:Int)≤i) (by simp only[List.length_map])
  (fun _h7=> .et ((↑(List.map encGram l).length:Int)≤i) (by simp only[List.length_map]) _h7 (.et ((↑(List.map encGram l).length:Int)≤i) (by simp only[List.length_map]) _h7
  (.et ((↑(List.map encGram l).length:Int)≤i) (by simp only[List.length_map]) _h7 (.et ((↑(List.map encGram l).length:Int)≤i) (by simp only[List.length_map]) _h7
  (.et ((↑(List.map encGram l).length:Int)≤i) (by simp only[List.length_map]) _h7 (.T (.q (Res.mk (AV.tuple [.tree (List.map encGram l),.bool false]) [] []) (by grind [netTurned]))))))))
  (fun _h7=> .eF ((↑(List.map encGram l).length:Int)≤i) (by simp only[List.length_map]) _h7 (.eF ((↑(List.map encGram l).length:Int)≤i) (by simp only[List.length_map]) _h7 (.i (0≤i)
  (fun _h8=> .em encGram l i.toNat (by omega) (fun _x9 a0=> .eF ((↑(List.map encGram l).length:Int)≤i) (by simp only[List.length_map]) _h7
  (.eF ((↑(List.map encGram l).length:Int)≤i) (by simp only[List.length_map]) _h7 (.eF ((↑(List.map encGram l).length:Int)≤i) (by simp only[List.length_map]) _h7 (.n _x9.Turned
  (fun a5=> .q (Res.mk (AV.tuple [.tree (List.map encGram l),.bool false]) [] []) (by(simp_all[netTurned];done))) (fun a5=> .z encGram l 4 (fun _=>rfl)
  (.k ((0+(List.map encGram l).length)*(40:Nat)≤140737488355328) ((0+l.length)*(40:Nat)≤140737488355328) (by simp only[List.length_map]) (fun ae=> .T (.it _h8 (.eh encGram a0
  (.k (0<(↑_x9.B.length:Int)) (0<_x9.B.length) (by simp only[ciLt]) (fun a3=> .et (0<(↑_x9.B.length:Int)) (by simp only[ciLt]) a3
  (.et (0<(↑_x9.B.length:Int)) (by simp only[ciLt]) a3 (.i (0≤to) (fun a4=> .it a4 (.T (.it a4 (.it a4
  (have a9:to.tmod (256:Int)=to%(256:Int):=Int.tmod_eq_emod_of_nonneg (by omega); .k (0<to.tmod 256) (0<to%256) (by simp only[a9])
  (fun af=> .k (0≤i∧i<(↑(0+(List.map encGram l).length):Int)) (0≤i∧i<(↑(0+l.length):Int)) (by simp only[List.length_map]) (fun aa=> .eh encGram a0 (.T
  (.k ((↑_x9.B.length:Int)≠0) (¬_x9.B.length=0) (by simp only[icEq,ne_eq])
  (fun ag=>have a6:to.tdiv (256:Int)=to/ (256:Int):=Int.tdiv_eq_ediv_of_nonneg (by omega);have a7:=wI64' (to/ (256:Int));have a8:(to/ (256:Int)).tmod (↑_x9.B.length:Int)=to/ (256:Int)%(↑_x9.B.length:Int):=Int.tmod_eq_emod_of_nonneg (by omega);have ab:(0:Int)≤to/ (256:Int)%(↑_x9.B.length:Int)∧to/ (256:Int)%(↑_x9.B.length:Int)<(↑_x9.B.length:Int):=⟨Int.emod_nonneg _ (by omega),Int.emod_lt_of_pos _ (by omega)⟩; .et (0≤(IntKind.i64.wrap (to.tdiv 256)).tmod (↑_x9.B.length:Int)∧(IntKind.i64.wrap (to.tdiv 256)).tmod (↑_x9.B.length:Int)<(↑_x9.B.length:Int)) (by simp only[a8,a7,a6]) ab
  (.eM (fun(c:UInt8)=>AV.int IntKind.u8 (↑c.toNat:Int)) _x9.B (((IntKind.i64.wrap (to.tdiv 256)).tmod (↑_x9.B.length:Int)).toNat) ((to/256%(↑_x9.B.length:Int)).toNat) (by simp only[a8,a7,a6]) (by omega)
  (fun a1 ac=> .T
  (.et (0≤(IntKind.i64.wrap (to.tdiv 256)).tmod (↑_x9.B.length:Int)∧(IntKind.i64.wrap (to.tdiv 256)).tmod (↑_x9.B.length:Int)<(↑_x9.B.length:Int)) (by simp only[a8,a7,a6]) ab
  (.eH (fun(c:UInt8)=>AV.int IntKind.u8 (↑c.toNat:Int)) _x9.B (((IntKind.i64.wrap (to.tdiv 256)).tmod (↑_x9.B.length:Int)).toNat) (by simp only[a8,a7,a6]) ac
  (have ap:a1.toNat<(256:Nat):=UInt8.toNat_lt _;have ah:=wU8' (to%(256:Int));have ai:=wU8' (↑(BitVec.ofInt (8:Nat) (↑a1.toNat:Int) ^^^ BitVec.ofInt (8:Nat) (to%(256:Int))).toNat:Int);have aq:List.take _x9.B.length ((List.map (fun(c:UInt8)=>AV.int IntKind.u8 (↑c.toNat:Int)) _x9.B).set (to/ (256:Int)%(↑_x9.B.length:Int)).toNat (AV.int IntKind.u8 (↑(BitVec.ofInt (8:Nat) (↑a1.toNat:Int) ^^^ BitVec.ofInt (8:Nat) (to%(256:Int))).toNat:Int)))=(List.map (fun(c:UInt8)=>AV.int IntKind.u8 (↑c.toNat:Int)) _x9.B).set (to/ (256:Int)%(↑_x9.B.length:Int)).toNat (AV.int IntKind.u8 (↑(BitVec.ofInt (8:Nat) (↑a1.toNat:Int) ^^^ BitVec.ofInt (8:Nat) (to%(256:Int))).toNat:Int)):=List.take_of_length_le (by simp); .B (List.take _x9.B.length ((List.map (fun(c:UInt8)=>AV.int IntKind.u8 (↑c.toNat:Int)) _x9.B).set ((IntKind.i64.wrap (to.tdiv (256:Int))).tmod (↑_x9.B.length:Int)).toNat (AV.int IntKind.u8 (IntKind.u8.wrap (↑(BitVec.ofInt (8:Nat) (↑a1.toNat:Int) ^^^ BitVec.ofInt (8:Nat) (IntKind.u8.wrap (to.tmod (256:Int)))).toNat:Int))))) (_x9.B.set (to/ (256:Int)%(↑_x9.B.length:Int)).toNat (UInt8.ofNat (BitVec.ofInt (8:Nat) (↑a1.toNat:Int) ^^^ BitVec.ofInt (8:Nat) (to%(256:Int))).toNat)) ?_
  (.et (0≤i∧i<(↑(0+(List.map encGram l).length):Int)) (by simp only[List.length_map]) aa
  (Sat.pElemM (encGram) (l.set i.toNat (Gram.mk _x9.From _x9.To _x9.B Bool.true)) ((List.map encGram l).set i.toNat (AV.agg [AV.int IntKind.i64 _x9.From,AV.int IntKind.i64 _x9.To,AV.str _x9.B,AV.bool Bool.true])) (i.toNat) (by kernel_rfl) (by simp[encGram]) (by(simp;omega))
  (fun a2 ad=>have ar:List.take ((0:Nat)+(List.map encGram l).length) (((List.map encGram l).set i.toNat (AV.agg [AV.int IntKind.i64 _x9.From,AV.int IntKind.i64 _x9.To,AV.str _x9.B,AV.bool Bool.true])).set i.toNat (AV.agg [AV.int IntKind.i64 a2.From,AV.int IntKind.i64 a2.To,AV.str (_x9.B.set (to/ (256:Int)%(↑_x9.B.length:Int)).toNat (UInt8.ofNat (BitVec.ofInt (8:Nat) (↑a1.toNat:Int) ^^^ BitVec.ofInt (8:Nat) (to%(256:Int))).toNat)),AV.bool a2.Turned]))=((List.map encGram l).set i.toNat (AV.agg [AV.int IntKind.i64 _x9.From,AV.int IntKind.i64 _x9.To,AV.str _x9.B,AV.bool Bool.true])).set i.toNat (AV.agg [AV.int IntKind.i64 a2.From,AV.int IntKind.i64 a2.To,AV.str (_x9.B.set (to/ (256:Int)%(↑_x9.B.length:Int)).toNat (UInt8.ofNat (BitVec.ofInt (8:Nat) (↑a1.toNat:Int) ^^^ BitVec.ofInt (8:Nat) (to%(256:Int))).toNat)),AV.bool a2.Turned]):=List.take_of_length_le (by simp); .q (Res.mk (AV.tuple [.tree (List.take (0+(List.map encGram l).length) (((List.map encGram l).set i.toNat
  (.agg [.int .i64 _x9.From,.int .i64 _x9.To,.str _x9.B,.bool true])).set i.toNat
  (.agg [.int .i64 a2.From,.int .i64 a2.To,.str (_x9.B.set (to/256%(↑_x9.B.length:Int)).toNat (UInt8.ofNat (BitVec.ofInt 8 (↑a1.toNat:Int) ^^^ BitVec.ofInt 8 (to%256)).toNat)),.bool a2.Turned]))),.bool true]) [] []) ?_)))))))))
  (fun ag=>False.elim (by omega))))) (fun aa=>False.elim (by omega)))
  (fun af=>have aj:List.take _x9.B.length (List.map (fun(c:UInt8)=>AV.int IntKind.u8 (↑c.toNat:Int)) _x9.B)=List.map (fun(c:UInt8)=>AV.int IntKind.u8 (↑c.toNat:Int)) _x9.B:=List.take_of_length_le (by simp); .B (List.take _x9.B.length (List.map (fun(c:UInt8)=>AV.int IntKind.u8 (↑c.toNat:Int)) _x9.B)) _x9.B (by simp only[aj])
  (.k (0≤i∧i<(↑(0+(List.map encGram l).length):Int)) (0≤i∧i<(↑(0+l.length):Int)) (by simp only[List.length_map]) (fun ak=> .eh encGram a0
  (have au:List.take ((0:Nat)+(List.map encGram l).length) ((List.map encGram l).set i.toNat (AV.agg [AV.int IntKind.i64 _x9.From,AV.int IntKind.i64 _x9.To,AV.str _x9.B,AV.bool _x9.Turned]))=(List.map encGram l).set i.toNat (AV.agg [AV.int IntKind.i64 _x9.From,AV.int IntKind.i64 _x9.To,AV.str _x9.B,AV.bool _x9.Turned]):=List.take_of_length_le (by simp); .q (Res.mk (AV.tuple [.tree (List.take (0+(List.map encGram l).length) ((List.map encGram l).set i.toNat (encGram _x9))),.bool true]) [] []) ?_))
  (fun ak=>False.elim (by omega))))))))) (fun a4=> .iF a4 (.iF a4 (.iF a4 (.F
  (have al:List.take _x9.B.length (List.map (fun(c:UInt8)=>AV.int IntKind.u8 (↑c.toNat:Int)) _x9.B)=List.map (fun(c:UInt8)=>AV.int IntKind.u8 (↑c.toNat:Int)) _x9.B:=List.take_of_length_le (by simp); .B (List.take _x9.B.length (List.map (fun(c:UInt8)=>AV.int IntKind.u8 (↑c.toNat:Int)) _x9.B)) _x9.B (by simp only[al])
  (.k (0≤i∧i<(↑(0+(List.map encGram l).length):Int)) (0≤i∧i<(↑(0+l.length):Int)) (by simp only[List.length_map]) (fun am=> .eh encGram a0
  (have av:List.take ((0:Nat)+(List.map encGram l).length) ((List.map encGram l).set i.toNat (AV.agg [AV.int IntKind.i64 _x9.From,AV.int IntKind.i64 _x9.To,AV.str _x9.B,AV.bool _x9.Turned]))=(List.map encGram l).set i.toNat (AV.agg [AV.int IntKind.i64 _x9.From,AV.int IntKind.i64 _x9.To,AV.str _x9.B,AV.bool _x9.Turned]):=List.take_of_length_le (by simp); .q (Res.mk (AV.tuple [.tree (List.take (0+(List.map encGram l).length) ((List.map encGram l).set i.toNat (encGram _x9))),.bool true]) [] []) ?_))
  (fun am=>False.elim (by omega))))))))))) (fun a3=> .eF (0<(↑_x9.B.length:Int)) (by simp only[ciLt]) a3 (.eF (0<(↑_x9.B.length:Int)) (by simp only[ciLt]) a3 (.F (.F (.F (.F (.F
  (have an:List.take _x9.B.length (List.map (fun(c:UInt8)=>AV.int IntKind.u8 (↑c.toNat:Int)) _x9.B)=List.map (fun(c:UInt8)=>AV.int IntKind.u8 (↑c.toNat:Int)) _x9.B:=List.take_of_length_le (by simp); .B (List.take _x9.B.length (List.map (fun(c:UInt8)=>AV.int IntKind.u8 (↑c.toNat:Int)) _x9.B)) _x9.B (by simp only[an])
  (.k (0≤i∧i<(↑(0+(List.map encGram l).length):Int)) (0≤i∧i<(↑(0+l.length):Int)) (by simp only[List.length_map]) (fun ao=> .eh encGram a0
  (have aw:List.take ((0:Nat)+(List.map encGram l).length) ((List.map encGram l).set i.toNat (AV.agg [AV.int IntKind.i64 _x9.From,AV.int IntKind.i64 _x9.To,AV.str _x9.B,AV.bool _x9.Turned]))=(List.map encGram l).set i.toNat (AV.agg [AV.int IntKind.i64 _x9.From,AV.int IntKind.i64 _x9.To,AV.str _x9.B,AV.bool _x9.Turned]):=List.take_of_length_le (by simp); .q (Res.mk (AV.tuple [.tree (List.take (0+(List.map encGram l).length) ((List.map encGram l).set i.toNat (encGram _x9))),.bool true]) [] []) ?_))
  (fun ao=>False.elim (by omega))))))))))))))) (fun ae=>False.elim (by omega))))))))) (fun _h8=>False.elim (by omega)))))))))))
 ·rw[show(IntKind.i64.wrap (to.tdiv 256)).tmod ↑_x9.B.length=to/256% ↑_x9.B.length by rw[a6,a7,a8],a9,ah,ai,List.take_of_length_le (by simp),List.map_set,xorN a1 (to%256) (by omega) (by omega)]
  simp
 ·have hb:i.toNat<l.length:=by omega
  have e29:a2={ From:=_x9.From,To:=_x9.To,B:=_x9.B,Turned:=true } :=by
   rw[List.getElem?_set_self (by simpa using hb)]at ad
   exact(Option.some.inj ad).symm
  rw[List.take_of_length_le (by simp),e29,netTurned_yes a0 (by omega) a5 (by omega) (by omega) (by intro h;rw[h]at a3;simp at a3)]
  simp[encGram,List.map_set,turnB,List.getD,ac,xorN a1 (to%256) (by omega) (by omega)]
 ·rw[List.take_of_length_le (by simp),netTurned_same a0 (by omega) a5 (.inr (.inr (by omega)))]
  exact congrArg (fun x=>Res.mk (AV.tuple [AV.tree x,AV.bool true]) [] []) (map_set_same a0)
 ·rw[List.take_of_length_le (by simp),netTurned_same a0 (by omega) a5 (.inr (.inl (by omega)))]
  exact congrArg (fun x=>Res.mk (AV.tuple [AV.tree x,AV.bool true]) [] []) (map_set_same a0)
 ·rw[List.take_of_length_le (by simp),netTurned_same a0 (by omega) a5 (.inl (List.length_eq_zero_iff.1 (by omega)))]
  exact congrArg (fun x=>Res.mk (AV.tuple [AV.tree x,AV.bool true]) [] []) (map_set_same a0)
theorem any_succ {T:Type} {l:List T} {k:Nat} {x:T} {f:T→Bool} (h:l[k]? =some x) (hn:(l.take k).any f=false) (hx:f x=false):(l.take (k+1)).any f=false:=by
 rw[take_succ h,List.any_append,hn];simp[hx]
theorem any_yes {T:Type} {l:List T} {k:Nat} {x:T} {f:T→Bool} (h:l[k]? =some x) (hx:f x=true):l.any f=true:=by
 rw[List.any_eq_true];exact⟨x,List.mem_of_getElem? h,hx⟩
theorem c165 (l:List Edge) (a b:Int) (hl:l.length≤100000):X.call 165 [.tree (l.map encEdge),.int .i64 a,.int .i64 b] [] ⟨.bool (l.any fun e=>decide (e=⟨a,b⟩)||decide (e=⟨b,a⟩)),[],[]⟩:=by
 refine spec_of ok Go.Proofs.Tryz.func165 ok165 ?_
 refine ?_
 refine Sat.pLoop 2 (St.mk [(0,.tree (List.map encEdge l)),(1,.int .i64 a),(2,.int .i64 b),(7,.int .i64 0)] []) (by kernel_rfl) (fun(k:Nat)=>⟨[(0,.tree (l.map encEdge)),(1,.int .i64 a),(2,.int .i64 b),(7,.int .i64 k)],[]⟩) (fun k=>k≤l.length∧((l.take k).any fun e=>decide (e=⟨a,b⟩)||decide (e=⟨b,a⟩))=false) (fun k=>l.length-k) 0 rfl ?_ ?_
 ·simp
 ·intro k hI again
  have hk:=hI.1
  have hs:=hI.2
  clear hI
  refine(.kl encEdge l k (fun a2=> .T (.em encEdge l k ‹_›
   (fun a0 a3=>Sat.pNodeE (decide (a0.A=a)&&(decide (a0.B=b)&&Bool.true)) (a0.A=a∧a0.B=b∧True) (by kernel_rfl) (by simp only[Bool.and_eq_true,decide_eq_true_eq])
   (fun a1=>Sat.pNodeET (decide (a0.A=a)&&(decide (a0.B=b)&&Bool.true)) (a0.A=a∧a0.B=b∧True) (by kernel_rfl) (by simp only[Bool.and_eq_true,decide_eq_true_eq]) a1
   (Sat.pNodeET (decide (a0.A=a)&&(decide (a0.B=b)&&Bool.true)) (a0.A=a∧a0.B=b∧True) (by kernel_rfl) (by simp only[Bool.and_eq_true,decide_eq_true_eq]) a1
   (Sat.pNodeET (decide (a0.A=a)&&(decide (a0.B=b)&&Bool.true)) (a0.A=a∧a0.B=b∧True) (by kernel_rfl) (by simp only[Bool.and_eq_true,decide_eq_true_eq]) a1
   (Sat.pNodeET (decide (a0.A=a)&&(decide (a0.B=b)&&Bool.true)) (a0.A=a∧a0.B=b∧True) (by kernel_rfl) (by simp only[Bool.and_eq_true,decide_eq_true_eq]) a1
   (Sat.pNodeET (decide (a0.A=a)&&(decide (a0.B=b)&&Bool.true)) (a0.A=a∧a0.B=b∧True) (by kernel_rfl) (by simp only[Bool.and_eq_true,decide_eq_true_eq]) a1
   (Sat.pNodeET (decide (a0.A=a)&&(decide (a0.B=b)&&Bool.true)) (a0.A=a∧a0.B=b∧True) (by kernel_rfl) (by simp only[Bool.and_eq_true,decide_eq_true_eq]) a1
   (Sat.pNodeET (decide (a0.A=a)&&(decide (a0.B=b)&&Bool.true)) (a0.A=a∧a0.B=b∧True) (by kernel_rfl) (by simp only[Bool.and_eq_true,decide_eq_true_eq]) a1
   (Sat.pNodeET (decide (a0.A=a)&&(decide (a0.B=b)&&Bool.true)) (a0.A=a∧a0.B=b∧True) (by kernel_rfl) (by simp only[Bool.and_eq_true,decide_eq_true_eq]) a1 (.T (.q (Res.mk
   (.bool true) [] []) (by(clear again;(rw[any_yes ‹_› (by simp[edge_eq, *])])))))))))))))
   (fun a1=>Sat.pNodeEF (decide (a0.A=a)&&(decide (a0.B=b)&&Bool.true)) (a0.A=a∧a0.B=b∧True) (by kernel_rfl) (by simp only[Bool.and_eq_true,decide_eq_true_eq]) a1
   (Sat.pNodeEF (decide (a0.A=a)&&(decide (a0.B=b)&&Bool.true)) (a0.A=a∧a0.B=b∧True) (by kernel_rfl) (by simp only[Bool.and_eq_true,decide_eq_true_eq]) a1 (.T
   (.eh encEdge a3 (Sat.pNodeEF (decide (a0.A=a)&&(decide (a0.B=b)&&Bool.true)) (a0.A=a∧a0.B=b∧True) (by kernel_rfl) (by simp only[Bool.and_eq_true,decide_eq_true_eq]) a1
   (Sat.pNodeEF (decide (a0.A=a)&&(decide (a0.B=b)&&Bool.true)) (a0.A=a∧a0.B=b∧True) (by kernel_rfl) (by simp only[Bool.and_eq_true,decide_eq_true_eq]) a1
   (Sat.pNodeEF (decide (a0.A=a)&&(decide (a0.B=b)&&Bool.true)) (a0.A=a∧a0.B=b∧True) (by kernel_rfl) (by simp only[Bool.and_eq_true,decide_eq_true_eq]) a1
   (Sat.pNodeEF (decide (a0.A=a)&&(decide (a0.B=b)&&Bool.true)) (a0.A=a∧a0.B=b∧True) (by kernel_rfl) (by simp only[Bool.and_eq_true,decide_eq_true_eq]) a1
   (Sat.pNodeEF (decide (a0.A=a)&&(decide (a0.B=b)&&Bool.true)) (a0.A=a∧a0.B=b∧True) (by kernel_rfl) (by simp only[Bool.and_eq_true,decide_eq_true_eq]) a1
   (Sat.pNodeEF (decide (a0.A=a)&&(decide (a0.B=b)&&Bool.true)) (a0.A=a∧a0.B=b∧True) (by kernel_rfl) (by simp only[Bool.and_eq_true,decide_eq_true_eq]) a1
   (Sat.pNodeE (decide (a0.A=b)&&(decide (a0.B=a)&&Bool.true)) (a0.A=b∧a0.B=a∧True) (by kernel_rfl) (by simp only[Bool.and_eq_true,decide_eq_true_eq]) (fun a4=> .q (Res.mk
   (.bool true) [] []) (by(clear again;(rw[any_yes ‹_› (by simp[edge_eq, *])]))))
   (fun a4=>have a5:=wI64' ((↑k:Int)+(1:Int)); .A (St.mk [(0,.tree (List.map encEdge l)),(1,.int .i64 a),(2,.int .i64 b),(7,.int .i64 (IntKind.i64.wrap ((↑k:Int)+1)))] []) (by simp[a5]) (again (k+(1:Nat)) ⟨(by omega),(by(clear again;(refine any_succ ‹_› hs ?_;simp only[edge_eq];simp_all;done)))⟩ (by omega)))))))))))))))))
   (fun a2=> .q (Res.mk (.bool false) [] []) (by(clear again;(rw[List.take_of_length_le (by omega)]at hs;rw[hs])))))
end Go.Ab.Tryz
