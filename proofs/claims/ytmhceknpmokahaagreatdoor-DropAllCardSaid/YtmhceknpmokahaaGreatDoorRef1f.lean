/- Package cardamomref1: versions that may be, as plain Lean. -/
import Derived.Test.YtmhceknpmokahaaGreatDoorG3
import Derived.Test.YtmhceknpmokahaaGreatDoorAb
namespace Go.Ab.Tryz
open Go
set_option maxRecDepth 100000
set_option maxHeartbeats 4000000
theorem c147 (s:Stamp):X.call 147 [encStamp s] [] ⟨.bool s.may,[],[]⟩:=by
 refine spec_of ok Go.Proofs.Tryz.func147 ok147 ?_
 refine(.i (1≤s.L) (fun _h2=> .it _h2 (.it _h2 (.it _h2 (.i (s.L≤5000) (fun _h3=> .it _h3 (.it _h3 (.it _h3 (.i (1≤s.R) (fun _h4=> .it _h4 (.it _h4 (.it _h4 (.i (s.R≤5) (fun _h5=> .it _h5
  (.it _h5 (.it _h5 (.i (1≤s.N) (fun _h6=> .it _h6 (.it _h6 (.it _h6 (.i (s.N≤1000) (fun _h7=> .it _h7 (.it _h7 (.it _h7 (.it _h7 (.it _h7 (.q (Res.mk
  (.bool (decide (s.N≤s.L))) [] []) (by grind [Stamp.may]))))))) (fun _h7=> .iF _h7 (.iF _h7 (.iF _h7 (.iF _h7 (.iF _h7 (.q (Res.mk (.bool false) [] []) (by grind [Stamp.may])))))))))))
  (fun _h6=> .iF _h6 (.iF _h6 (.iF _h6 (.F (.F (.F (.F (.F (.F (.q (Res.mk (.bool false) [] []) (by grind [Stamp.may]))))))))))))))) (fun _h5=> .iF _h5 (.iF _h5 (.iF _h5 (.F (.F (.F (.F (.F (.F (.F (.F
  (.F (.F (.q (Res.mk (.bool false) [] []) (by grind [Stamp.may]))))))))))))))))))) (fun _h4=> .iF _h4 (.iF _h4 (.iF _h4 (.F (.F (.F (.F (.F (.F (.F (.F (.F (.F (.F (.F (.F (.F (.q (Res.mk
  (.bool false) [] []) (by grind [Stamp.may]))))))))))))))))))))))) (fun _h3=> .iF _h3 (.iF _h3 (.iF _h3 (.F (.F (.F (.F (.F (.F (.F (.F (.F (.F (.F (.F (.F (.F (.F (.F (.F (.F (.q (Res.mk
  (.bool false) [] []) (by grind [Stamp.may]))))))))))))))))))))))))))) (fun _h2=> .iF _h2 (.iF _h2 (.iF _h2 (.F (.F (.F (.F (.F (.F (.F (.F (.F (.F (.F (.F (.F (.F (.F (.F (.F (.F (.F (.F (.F (.F
  (.q (Res.mk (.bool false) [] []) (by grind [Stamp.may]))))))))))))))))))))))))))))
theorem c28 (a b:Stamp):X.call 28 [encStamp a,encStamp b] [] ⟨.int .i64 (a.cmp b),[],[]⟩:=by
 refine spec_of ok Go.Proofs.Tryz.func28 ok28 ?_
 have again_l:Sat X 28 (loopD X.cfg 28 Go.Proofs.Tryz.f28 0 3 ⟨[(5,.ref (.head 5 0) 0 0),(6,.ref (.head 6 0) 0 0),(7,.int .i64 0)],[(.head 5 0,.box (.agg [.int .i64 a.L,.int .i64 a.R,.int .i64 a.N]) true),(.head 6 0,.box (.agg [.int .i64 b.L,.int .i64 b.R,.int .i64 b.N]) true)]⟩) (· =⟨.int .i64 (a.cmp b),[],[]⟩):=by
  refine Sat.pLoop 3 (St.mk [(5,.ref (.head 5 0) 0 0),(6,.ref (.head 6 0) 0 0),(7,.int .i64 0)] [(.head 5 0,.box (encStamp a) true),
   (.head 6 0,.box (encStamp b) true)]) (by kernel_rfl) (fun(k:Nat)=>⟨[(5,.ref (.head 5 0) 0 0),(6,.ref (.head 6 0) 0 0),(7,.int .i64 k)],[(.head 5 0,.box
   (.agg [.int .i64 a.L,.int .i64 a.R,.int .i64 a.N]) true),(.head 6 0,.box
   (.agg [.int .i64 b.L,.int .i64 b.R,.int .i64 b.N]) true)]⟩) (fun k=>k≤3∧(0<k→a.L=b.L)∧(1<k→a.R=b.R)∧(2<k→a.N=b.N)) (fun k=>3-k) 0 rfl ?_ ?_
  ·omega
  ·intro k hk again
   refine(.k ((↑k:Int)<3) (k<3) (by simp only[icLt]) (fun _h6=>Sat.pFin3 ((↑k:Int)) (by kernel_rfl) (by omega) (fun _h7=>Sat.pFin3 ((↑k:Int)) (by kernel_rfl) (by omega)
    (fun _h8=> .i (a.L<b.L) (fun _h9=> .q (Res.mk (.int .i64 (-1:Int)) [] []) (by(clear again;grind [Stamp.cmp,icmp]))) (fun _h9=>Sat.pFin3 ((↑k:Int)) (by kernel_rfl) (by omega)
    (fun a8=>Sat.pFin3 ((↑k:Int)) (by kernel_rfl) (by omega) (fun a9=> .i (b.L<a.L) (fun a0=> .q (Res.mk (.int .i64 1) [] []) (by(clear again;grind [Stamp.cmp,icmp])))
    (fun a0=>have a1:=wI64' ((↑k:Int)+(1:Int)); .A (St.mk [(5,.ref (.head 5 0) 0 0),(6,.ref (.head 6 0) 0 0),(7,.int .i64 (IntKind.i64.wrap ((↑k:Int)+1)))] [(.head 5 0,.box
    (.agg [.int .i64 a.L,.int .i64 a.R,.int .i64 a.N]) true),(.head 6 0,.box
    (.agg [.int .i64 b.L,.int .i64 b.R,.int .i64 b.N]) true)]) (by simp[a1]) (again (k+(1:Nat)) (by omega) (by omega)))) (fun aa=>False.elim (by omega)) (fun ab=>False.elim (by omega)))
    (fun ac=>False.elim (by omega)) (fun ad=>False.elim (by omega)))) (fun ae=>False.elim (by omega)) (fun af=>False.elim (by omega)))
    (fun ag=>Sat.pFin3 ((↑k:Int)) (by kernel_rfl) (by omega) (fun ah=>False.elim (by omega)) (fun ai=> .i (a.R<b.R) (fun a2=> .q (Res.mk
    (.int .i64 (-1:Int)) [] []) (by(clear again;grind [Stamp.cmp,icmp]))) (fun a2=>Sat.pFin3 ((↑k:Int)) (by kernel_rfl) (by omega) (fun aj=>False.elim (by omega))
    (fun ak=>Sat.pFin3 ((↑k:Int)) (by kernel_rfl) (by omega) (fun al=>False.elim (by omega)) (fun am=> .i (b.R<a.R) (fun a3=> .q (Res.mk
    (.int .i64 1) [] []) (by(clear again;grind [Stamp.cmp,icmp]))) (fun a3=>have a4:=wI64' ((↑k:Int)+(1:Int)); .A (St.mk [(5,.ref (.head 5 0) 0 0),(6,.ref
    (.head 6 0) 0 0),(7,.int .i64 (IntKind.i64.wrap ((↑k:Int)+1)))] [(.head 5 0,.box (.agg [.int .i64 a.L,.int .i64 a.R,.int .i64 a.N]) true),(.head 6 0,.box
    (.agg [.int .i64 b.L,.int .i64 b.R,.int .i64 b.N]) true)]) (by simp[a4]) (again (k+(1:Nat)) (by omega) (by omega)))) (fun an=>False.elim (by omega))) (fun ao=>False.elim (by omega))))
    (fun ap=>False.elim (by omega))) (fun aq=>Sat.pFin3 ((↑k:Int)) (by kernel_rfl) (by omega) (fun ar=>False.elim (by omega)) (fun au=>False.elim (by omega)) (fun av=> .i (a.N<b.N)
    (fun a5=> .q (Res.mk (.int .i64 (-1:Int)) [] []) (by(clear again;grind [Stamp.cmp,icmp]))) (fun a5=>Sat.pFin3 ((↑k:Int)) (by kernel_rfl) (by omega) (fun aw=>False.elim (by omega))
    (fun ax=>False.elim (by omega)) (fun ay=>Sat.pFin3 ((↑k:Int)) (by kernel_rfl) (by omega) (fun az=>False.elim (by omega)) (fun aA=>False.elim (by omega)) (fun aB=> .i (b.N<a.N)
    (fun a6=> .q (Res.mk (.int .i64 1) [] []) (by(clear again;grind [Stamp.cmp,icmp]))) (fun a6=>have a7:=wI64' ((↑k:Int)+(1:Int)); .A (St.mk [(5,.ref (.head 5 0) 0 0),(6,.ref
    (.head 6 0) 0 0),(7,.int .i64 (IntKind.i64.wrap ((↑k:Int)+1)))] [(.head 5 0,.box (.agg [.int .i64 a.L,.int .i64 a.R,.int .i64 a.N]) true),(.head 6 0,.box
    (.agg [.int .i64 b.L,.int .i64 b.R,.int .i64 b.N]) true)]) (by simp[a7]) (again (k+(1:Nat)) (by omega) (by omega))))))))) (fun _h6=> .q (Res.mk
    (.int .i64 0) [] []) (by(clear again;grind [Stamp.cmp,icmp]))))
 refine(.b (Sat.pJoinE (L:=loopD X.cfg (28:FuncId) Proofs.Tryz.f28 0 3) (St.mk [(5,.ref (.head 5 0) 0 0),(6,.ref (.head 6 0) 0 0),(7,.int .i64 0)] [(.head 5 0,.box (encStamp a) true),
  (.head 6 0,.box (encStamp b) true)]) (by kernel_rfl) rfl rfl (again_l)) (Sat.pJoinE (L:=loopD X.cfg (28:FuncId) Proofs.Tryz.f28 0 3) (St.mk [(5,.ref (.head 5 0) 0 0),(6,.ref
  (.head 6 0) 0 0),(7,.int .i64 0)] [(.head 5 0,.box (encStamp a) true),(.head 6 0,.box (encStamp b) true)]) (by kernel_rfl) rfl rfl (again_l)))
theorem c97 (l r n:Int):X.call 97 [.int .i64 l,.int .i64 r,.int .i64 n] [] ⟨.tuple [encStamp (nextStamp l r n).1,.bool (nextStamp l r n).2],[],[]⟩:=by
 refine spec_of ok Go.Proofs.Tryz.func97 ok97 ?_
 refine(.i (l<0) (fun _h4=> .it _h4 (.it _h4 (.T (.T (.T (.T (.T (.T (.T
  (.q (Res.mk (AV.tuple [.agg [.int .i64 0,.int .i64 0,.int .i64 0],.bool false]) [] []) (by grind [nextStamp,encStamp]))))))))))) (fun _h4=> .iF _h4 (.iF _h4 (.i (5000≤l) (fun _h5=> .it _h5
  (.it _h5 (.T (.T (.T (.T (.q (Res.mk (AV.tuple [.agg [.int .i64 0,.int .i64 0,.int .i64 0],.bool false]) [] []) (by grind [nextStamp,encStamp])))))))) (fun _h5=> .iF _h5 (.iF _h5 (.i (n<0)
  (fun _h6=> .it _h6 (.it _h6 (.T (.q (Res.mk (AV.tuple [.agg [.int .i64 0,.int .i64 0,.int .i64 0],.bool false]) [] []) (by grind [nextStamp,encStamp]))))) (fun _h6=> .iF _h6 (.iF _h6
  (.i (1000≤n) (fun _h7=> .q (Res.mk (AV.tuple [.agg [.int .i64 0,.int .i64 0,.int .i64 0],.bool false]) [] []) (by grind [nextStamp,encStamp]))
  (fun _h7=>have _w8:=wI64' (l+(1:Int));have _w9:=wI64' (n+(1:Int)); .C ([.agg [.int .i64 (IntKind.i64.wrap (l+1)),.int .i64 r,.int .i64 (IntKind.i64.wrap (n+1))]]) ([]) (by simp[encStamp,_w9,_w8]) rfl (@Tryz.c147 (Stamp.mk (l+(1:Int)) r (n+(1:Int))))
  (.m ((Stamp.mk (l+1) r (n+1)).may) (fun a0=> .q (Res.mk (AV.tuple [.agg [.int .i64 0,.int .i64 0,.int .i64 0],.bool false]) [] []) (by grind [nextStamp,encStamp]))
  (fun a0=> .q (Res.mk (AV.tuple [.agg [.int .i64 (IntKind.i64.wrap (l+1)),.int .i64 r,.int .i64 (IntKind.i64.wrap (n+1))],.bool true]) [] []) (by grind [nextStamp,encStamp]))))))))))))))
theorem c148 (s:List UInt8) (most:Int) (hs:s.length≤100000):X.call 148 [.str s,.int .i64 most] [] ⟨.bool (s.all isLetter&&decide ((s.length:Int)≤most)),[],[]⟩:=by
 refine spec_of ok Go.Proofs.Tryz.func148 ok148 ?_
 refine ?_
 refine Sat.pLoop 2 (St.mk [(0,.str s),(1,.int .i64 most),(5,.int .i64 0)] []) (by kernel_rfl) (fun(k:Nat)=>⟨[(0,.str s),(1,.int .i64 most),(5,.int .i64 k)],[]⟩) (fun k=>k≤s.length∧(s.take k).all isLetter=true) (fun k=>s.length-k) 0 rfl ?_ ?_
 ·simp
 ·intro k hk again
  refine(.k ((↑k:Int)<(↑s.length:Int)) (k<s.length) (by simp only[Int.ofNat_lt]) (fun _h7=> .T (.bm s k ‹_›
   (fun _x8 a1=>have a4:_x8.toNat<(256:Nat):=UInt8.toNat_lt _; .k ((↑_x8.toNat:Int)<97) (_x8.toNat<97) (by simp only[icLt])
   (fun a0=> .et ((↑_x8.toNat:Int)<97) (by simp only[icLt]) a0 (.et ((↑_x8.toNat:Int)<97) (by simp only[icLt]) a0 (.et ((↑_x8.toNat:Int)<97) (by simp only[icLt]) a0
   (.et ((↑_x8.toNat:Int)<97) (by simp only[icLt]) a0 (.T (.q (Res.mk (.bool false) [] []) (by(clear again;(rw[all_false ‹_› (by simp[isLetter];omega)];rfl)))))))))
   (fun a0=> .eF ((↑_x8.toNat:Int)<97) (by simp only[icLt]) a0 (.eF ((↑_x8.toNat:Int)<97) (by simp only[icLt]) a0 (.T (.bh a1 (.eF ((↑_x8.toNat:Int)<97) (by simp only[icLt]) a0
   (.eF ((↑_x8.toNat:Int)<97) (by simp only[icLt]) a0 (.k (122<(↑_x8.toNat:Int)) (122<_x8.toNat) (by simp only[ciLt]) (fun a2=> .q (Res.mk
   (.bool false) [] []) (by(clear again;(rw[all_false ‹_› (by simp[isLetter];omega)];rfl))))
   (fun a2=>have a3:=wI64' ((↑k:Int)+(1:Int)); .A (St.mk [(0,.str s),(1,.int .i64 most),(5,.int .i64 (IntKind.i64.wrap ((↑k:Int)+1)))] []) (by simp[a3]) (again (k+(1:Nat)) (by(clear again;(rw[take_succ ‹_›,List.all_append];simp_all[isLetter];omega))) (by omega)))))))))))))
   (fun _h7=> .q (Res.mk (.bool (decide ((↑s.length:Int)≤most))) [] []) (by(clear again;(rw[List.take_of_length_le (by omega)]at hk;simp_all;done)))))
end Go.Ab.Tryz
namespace Go.Ab.Tryz
open Go
set_option maxRecDepth 100000
set_option maxHeartbeats 4000000
theorem c29 (l:List Head) (item:Int) (hl:l.length≤100000):X.call 29 [.tree (l.map encHead),.int .i64 item] [] ⟨encStamp (headAt l item),[],[]⟩:=by
 refine spec_of ok Go.Proofs.Tryz.func29 ok29 ?_
 refine ?_
 refine Sat.pLoop 2 (St.mk [(0,.tree (List.map encHead l)),(1,.int .i64 item),(4,.ref (.head 4 0) 0 0),(5,.int .i64 0)] [(.head 4 0,.box
  (.agg [.int .i64 0,.int .i64 0,.int .i64 0]) true)]) (by kernel_rfl) (fun(k:Nat)=>⟨[(0,.tree (l.map encHead)),(1,.int .i64 item),(4,.ref
  (.head 4 0) 0 0),(5,.int .i64 k)],[(.head 4 0,.box
  (.agg [.int .i64 0,.int .i64 0,.int .i64 0]) true)]⟩) (fun k=>k≤l.length∧l.find? (fun h=>decide (h.Item=item))=(l.drop k).find? (fun h=>decide (h.Item=item))) (fun k=>l.length-k) 0 rfl ?_ ?_
 ·simp
 ·intro k hk again
  refine(.kl encHead l k (fun _h7=> .T (.em encHead l k ‹_› (fun _x8 a0=> .i (_x8.Item=item) (fun a1=> .T (.eh encHead a0
   (.q (Res.mk (encStamp _x8.S) [] []) (by(clear again;(rw[headAt,hk.2,drop_at ‹_›];simp_all[encStamp]))))))
   (fun a1=>have a2:=wI64' ((↑k:Int)+(1:Int)); .A (St.mk [(0,.tree (List.map encHead l)),(1,.int .i64 item),(4,.ref
   (.head 4 0) 0 0),(5,.int .i64 (IntKind.i64.wrap ((↑k:Int)+1)))] [(.head 4 0,.box
   (.agg [.int .i64 0,.int .i64 0,.int .i64 0]) true)]) (by simp[a2]) (again (k+(1:Nat)) (by(clear again;(rw[drop_at ‹_›]at hk;simp_all;omega))) (by omega)))))) (fun _h7=> .q (Res.mk
   (.agg [.int .i64 0,.int .i64 0,.int .i64 0]) [] []) (by(clear again;(rw[headAt,hk.2,List.drop_of_length_le (by omega)];rfl)))))
theorem c39 (l:List Version) (item:Int) (hl:l.length≤100000):X.call 39 [.tree (l.map encVersion),.int .i64 item] [] ⟨.tuple [encVersion ((findV l item).getD ⟨0,⟨0,0,0⟩,false,[],[],[]⟩),.bool (findV l item).isSome],[],[]⟩:=by
 refine spec_of ok Go.Proofs.Tryz.func39 ok39 ?_
 refine ?_
 refine Sat.pLoop 2 (St.mk [(0,.tree (List.map encVersion l)),(1,.int .i64 item),(4,.ref (.head 4 0) 0 0),(6,.int .i64 0)] [(.head 4 0,.box
  (.agg [.int .i64 0,.int .i64 0,.int .i64 0,.int .i64 0,.bool false,.nils,.str [],.str []]) true)]) (by kernel_rfl) (fun(k:Nat)=>⟨[(0,.tree (l.map encVersion)),(1,.int .i64 item),(4,.ref
  (.head 4 0) 0 0),(6,.int .i64 k)],[(.head 4 0,.box
  (.agg [.int .i64 0,.int .i64 0,.int .i64 0,.int .i64 0,.bool false,.nils,.str [],.str []]) true)]⟩) (fun k=>k≤l.length∧findV l item=findV (l.drop k) item) (fun k=>l.length-k) 0 rfl ?_ ?_
 ·simp
 ·intro k hk again
  refine(.kl encVersion l k (fun _h7=> .T (.em encVersion l k ‹_› (fun _x8 a0=> .i (_x8.Item=item) (fun a1=> .T (.eh encVersion a0
   (.q (Res.mk (AV.tuple [encVersion _x8,.bool true]) [] []) (by(clear again;(rw[hk.2,drop_at ‹_›];simp_all[findV,encVersion]))))))
   (fun a1=>have a2:=wI64' ((↑k:Int)+(1:Int)); .A (St.mk [(0,.tree (List.map encVersion l)),(1,.int .i64 item),(4,.ref
   (.head 4 0) 0 0),(6,.int .i64 (IntKind.i64.wrap ((↑k:Int)+1)))] [(.head 4 0,.box
   (.agg [.int .i64 0,.int .i64 0,.int .i64 0,.int .i64 0,.bool false,.nils,.str [],.str []]) true)]) (by simp[a2]) (again (k+(1:Nat)) (by(clear again;(rw[drop_at ‹_›]at hk;simp_all[findV];omega))) (by omega))))))
   (fun _h7=> .q (Res.mk (AV.tuple [.agg [.int .i64 0,.int .i64 0,.int .i64 0,.int .i64 0,.bool false,.tree [],.str [],.str []],.bool false]) [] []) (by(clear again;(rw[hk.2,List.drop_of_length_le (by omega)];rfl)))))
theorem c40 (l:List Version) (hl:l.length≤1000):X.call 40 [.tree (l.map encVersion)] [] ⟨.tree ((headsOf l).map encHead),[],[]⟩:=by
 refine spec_of ok Go.Proofs.Tryz.func40 ok40 ?_
 refine ?_
 refine Sat.pLoop 3 (St.mk [(0,.tree (List.map encVersion l)),(3,.sref
  (.head 3 0) 0 0),(4,.int .i64 0)] [(.head 3 0,.row 4 [] true true)]) (by kernel_rfl) (fun(p:Nat×List Head)=>⟨[(0,.tree (l.map encVersion)),(3,.sref
  (.head 3 0) 0 p.2.length),(4,.int .i64 p.1)],[(.head 3 0,.row 4 (p.2.map encHead) true true)]⟩) (fun p=>p.1≤l.length∧p.2=headsOf (l.take p.1)∧p.2.length=p.1) (fun p=>l.length-p.1) (0,[]) rfl ?_ ?_
 ·exact⟨by simp,rfl,rfl⟩
 ·rintro⟨k,acc⟩ hI again
  obtain⟨hk,ha,hal⟩:=hI
  simp only at hk ha hal
  refine(.k ((↑k:Int)<(↑(List.map encVersion l).length:Int)) (k<l.length) (by simp only[List.length_map,Int.ofNat_lt]) (fun a2=> .T (.em encVersion l k ‹_› (fun a0 a3=> .T
   (.eh encVersion a3 (.i ((acc.length+1)*(32:Nat)≤140737488355328) (fun a4=> .k (acc.length=(List.map encHead acc).length) (True) (by simp only[List.length_map])
   (fun a1=>have a5:=wI64' ((↑k:Int)+(1:Int)); .A (St.mk [(0,.tree (List.map encVersion l)),(3,.sref
   (.head 3 0) 0 (acc.length+1)),(4,.int .i64 (IntKind.i64.wrap ((↑k:Int)+1)))] [(.head 3 0,.row 4 (List.map encHead acc++[.agg [.int .i64 a0.Item,.int .i64 a0.S.L,.int .i64 a0.S.R,.int .i64 a0.S.N]]) true true)]) (by simp[encHead,a5]) (again ((k+(1:Nat),acc++[Head.mk a0.Item a0.S])) (by(clear again;(dsimp only;(refine⟨by omega, ?_,by simp;omega⟩;rw[take_succ ‹_›,ha];simp[headsOf])))) (by(clear again;(dsimp only;omega)))))
   (fun a1=>(a1 trivial).elim)) (fun a4=>False.elim (by omega)))))))
   (fun a2=>have a6:List.take acc.length (List.map encHead acc)=List.map encHead acc:=List.take_of_length_le (by simp); .q (Res.mk
   (.tree (List.take acc.length (List.map encHead acc))) [] []) (by(clear again;(rw[List.take_of_length_le (by omega)]at ha;simp_all;done)))))
end Go.Ab.Tryz
namespace Go.Ab.Tryz
open Go
set_option maxRecDepth 100000
set_option maxHeartbeats 4000000
theorem c37 (a b:List Head) (ha:a.length≤100000):X.call 37 [.tree (a.map encHead),.tree (b.map encHead)] [] ⟨.bool (decide (a=b)),[],[]⟩:=by
 refine spec_of ok Go.Proofs.Tryz.func37 ok37 ?_
 refine(.l ((↑(List.map encHead a).length:Int)=(↑(List.map encHead b).length:Int)) (a.length=b.length) (by simp only[List.length_map,Int.natCast_inj]) (fun _h4=> .q (Res.mk
  (.bool false) [] []) (by(simp;intro e;subst e;simp_all))) (fun _h4=> ?_))
 refine Sat.pLoop 4 (St.mk [(0,.tree (List.map encHead a)),(1,.tree (List.map encHead b)),(5,.int .i64 0)] []) (by kernel_rfl) (fun(k:Nat)=>⟨[(0,.tree (a.map encHead)),(1,.tree (b.map encHead)),(5,.int .i64 k)],[]⟩) (fun k=>k≤a.length∧a.take k=b.take k) (fun k=>a.length-k) 0 rfl ?_ ?_
 ·simp
 ·intro k hk again
  refine(.kl encHead a k (fun _h8=> .T (.em encHead a k ‹_› (fun _x9 a3=> .T (.em encHead b k (by omega)
   (fun a0 a4=>Sat.pNodeEN (decide (_x9.Item=a0.Item)&&(decide (_x9.S.L=a0.S.L)&&(decide (_x9.S.R=a0.S.R)&&(decide (_x9.S.N=a0.S.N)&&Bool.true))&&Bool.true)) (_x9.Item=a0.Item∧(_x9.S.L=a0.S.L∧_x9.S.R=a0.S.R∧_x9.S.N=a0.S.N∧True)∧True) (by kernel_rfl) (by simp only[Bool.and_eq_true,decide_eq_true_eq])
   (fun a1=> .q (Res.mk (.bool false) [] []) (by(clear again;(simp;intro e;subst e;simp_all))))
   (fun a1=>have a2:=wI64' ((↑k:Int)+(1:Int)); .A (St.mk [(0,.tree (List.map encHead a)),(1,.tree (List.map encHead b)),(5,.int .i64 (IntKind.i64.wrap ((↑k:Int)+1)))] []) (by simp[a2]) (again (k+(1:Nat)) (by(clear again;(refine⟨by omega, ?_⟩;rw[take_succ ‹_›,take_succ ‹_›,hk.2];simp_all[Head.ext_iff,Stamp.ext_iff]))) (by omega))))))))
   (fun _h8=> .q (Res.mk (.bool true) [] []) (by(clear again;(rw[List.take_of_length_le (by omega),List.take_of_length_le (by omega)]at hk;simp_all)))))
theorem c38 (a b:List Int) (ha:a.length≤100000):X.call 38 [.tree (a.map encI),.tree (b.map encI)] [] ⟨.bool (decide (a=b)),[],[]⟩:=by
 refine spec_of ok Go.Proofs.Tryz.func38 ok38 ?_
 refine(.l ((↑(List.map encI a).length:Int)=(↑(List.map encI b).length:Int)) (a.length=b.length) (by simp only[List.length_map,Int.natCast_inj]) (fun _h4=> .q (Res.mk
  (.bool false) [] []) (by(simp;intro e;subst e;simp_all))) (fun _h4=> ?_))
 refine Sat.pLoop 4 (St.mk [(0,.tree (List.map encI a)),(1,.tree (List.map encI b)),(5,.int .i64 0)] []) (by kernel_rfl) (fun(k:Nat)=>⟨[(0,.tree (a.map encI)),(1,.tree (b.map encI)),(5,.int .i64 k)],[]⟩) (fun k=>k≤a.length∧a.take k=b.take k) (fun k=>a.length-k) 0 rfl ?_ ?_
 ·simp
 ·intro k hk again
  refine(.kl encI a k (fun _h8=> .T (.em encI a k ‹_› (fun _x9 a3=> .T (.em encI b k (by omega) (fun a0 a4=> .j (_x9=a0) (fun a1=> .q (Res.mk
   (.bool false) [] []) (by(clear again;(simp;intro e;subst e;simp_all))))
   (fun a1=>have a2:=wI64' ((↑k:Int)+(1:Int)); .A (St.mk [(0,.tree (List.map encI a)),(1,.tree (List.map encI b)),(5,.int .i64 (IntKind.i64.wrap ((↑k:Int)+1)))] []) (by simp[a2]) (again (k+(1:Nat)) (by(clear again;(refine⟨by omega, ?_⟩;rw[take_succ ‹_›,take_succ ‹_›,hk.2];simp_all))) (by omega))))))))
   (fun _h8=> .q (Res.mk (.bool true) [] []) (by(clear again;(rw[List.take_of_length_le (by omega),List.take_of_length_le (by omega)]at hk;simp_all)))))
theorem c27 (a b:Version) (ha:a.Attrs.length≤100000):X.call 27 [encVersion a,encVersion b] [] ⟨.bool (decide (a=b)),[],[]⟩:=by
 refine spec_of ok Go.Proofs.Tryz.func27 ok27 ?_
 refine(.j (a.Item=b.Item) (fun _h4=> .iu _h4 (.iu _h4 (.iu _h4 (.iu _h4 (.iu _h4 (.T (.T (.T (.T (.T (.T (.T (.T (.T (.T (.T (.T (.T (.T (.T (.T (.T (.T (.T (.T (.T (.T (.T (.T (.T (.T (.T
  (.q (Res.mk (.bool false) [] []) (by(simp;intro e;subst e;simp_all))))))))))))))))))))))))))))))))))) (fun _h4=> .iv _h4 (.iv _h4 (.iv _h4 (.iv _h4 (.iv _h4
  (Sat.pNodeEN (decide (a.S.L=b.S.L)&&(decide (a.S.R=b.S.R)&&(decide (a.S.N=b.S.N)&&Bool.true))) (a.S.L=b.S.L∧a.S.R=b.S.R∧a.S.N=b.S.N∧True) (by kernel_rfl) (by simp only[Bool.and_eq_true,decide_eq_true_eq])
  (fun _h5=>Sat.pNodeENF (decide (a.S.L=b.S.L)&&(decide (a.S.R=b.S.R)&&(decide (a.S.N=b.S.N)&&Bool.true))) (a.S.L=b.S.L∧a.S.R=b.S.R∧a.S.N=b.S.N∧True) (by kernel_rfl) (by simp only[Bool.and_eq_true,decide_eq_true_eq]) _h5
  (Sat.pNodeENF (decide (a.S.L=b.S.L)&&(decide (a.S.R=b.S.R)&&(decide (a.S.N=b.S.N)&&Bool.true))) (a.S.L=b.S.L∧a.S.R=b.S.R∧a.S.N=b.S.N∧True) (by kernel_rfl) (by simp only[Bool.and_eq_true,decide_eq_true_eq]) _h5
  (Sat.pNodeENF (decide (a.S.L=b.S.L)&&(decide (a.S.R=b.S.R)&&(decide (a.S.N=b.S.N)&&Bool.true))) (a.S.L=b.S.L∧a.S.R=b.S.R∧a.S.N=b.S.N∧True) (by kernel_rfl) (by simp only[Bool.and_eq_true,decide_eq_true_eq]) _h5
  (Sat.pNodeENF (decide (a.S.L=b.S.L)&&(decide (a.S.R=b.S.R)&&(decide (a.S.N=b.S.N)&&Bool.true))) (a.S.L=b.S.L∧a.S.R=b.S.R∧a.S.N=b.S.N∧True) (by kernel_rfl) (by simp only[Bool.and_eq_true,decide_eq_true_eq]) _h5
  (Sat.pNodeENF (decide (a.S.L=b.S.L)&&(decide (a.S.R=b.S.R)&&(decide (a.S.N=b.S.N)&&Bool.true))) (a.S.L=b.S.L∧a.S.R=b.S.R∧a.S.N=b.S.N∧True) (by kernel_rfl) (by simp only[Bool.and_eq_true,decide_eq_true_eq]) _h5
  (.T (.T (.T (.T (.T (.T (.T (.T (.T (.T (.T (.T (.T (.T (.T (.T (.T (.T (.T (.T (.T (.q (Res.mk (.bool false) [] []) (by(simp;intro e;subst e;simp_all)))))))))))))))))))))))))))))
  (fun _h5=>Sat.pNodeENT (decide (a.S.L=b.S.L)&&(decide (a.S.R=b.S.R)&&(decide (a.S.N=b.S.N)&&Bool.true))) (a.S.L=b.S.L∧a.S.R=b.S.R∧a.S.N=b.S.N∧True) (by kernel_rfl) (by simp only[Bool.and_eq_true,decide_eq_true_eq]) _h5
  (Sat.pNodeENT (decide (a.S.L=b.S.L)&&(decide (a.S.R=b.S.R)&&(decide (a.S.N=b.S.N)&&Bool.true))) (a.S.L=b.S.L∧a.S.R=b.S.R∧a.S.N=b.S.N∧True) (by kernel_rfl) (by simp only[Bool.and_eq_true,decide_eq_true_eq]) _h5
  (Sat.pNodeENT (decide (a.S.L=b.S.L)&&(decide (a.S.R=b.S.R)&&(decide (a.S.N=b.S.N)&&Bool.true))) (a.S.L=b.S.L∧a.S.R=b.S.R∧a.S.N=b.S.N∧True) (by kernel_rfl) (by simp only[Bool.and_eq_true,decide_eq_true_eq]) _h5
  (Sat.pNodeENT (decide (a.S.L=b.S.L)&&(decide (a.S.R=b.S.R)&&(decide (a.S.N=b.S.N)&&Bool.true))) (a.S.L=b.S.L∧a.S.R=b.S.R∧a.S.N=b.S.N∧True) (by kernel_rfl) (by simp only[Bool.and_eq_true,decide_eq_true_eq]) _h5
  (Sat.pNodeENT (decide (a.S.L=b.S.L)&&(decide (a.S.R=b.S.R)&&(decide (a.S.N=b.S.N)&&Bool.true))) (a.S.L=b.S.L∧a.S.R=b.S.R∧a.S.N=b.S.N∧True) (by kernel_rfl) (by simp only[Bool.and_eq_true,decide_eq_true_eq]) _h5
  (.j (a.Dead=b.Dead) (fun a1=> .iu a1 (.iu a1 (.iu a1 (.iu a1 (.iu a1 (.T (.T (.T (.T (.T (.T (.T (.T (.T (.T (.T (.T (.T (.T (.T (.q (Res.mk
  (.bool false) [] []) (by(simp;intro e;subst e;simp_all))))))))))))))))))))))) (fun a1=> .iv a1 (.iv a1 (.iv a1 (.iv a1 (.iv a1 (.j (a.Tag=b.Tag) (fun a2=> .iu a2 (.iu a2
  (.iu a2 (.iu a2 (.iu a2 (.T (.T (.T (.T (.T (.T (.T (.T (.T (.q (Res.mk (.bool false) [] []) (by(simp;intro e;subst e;simp_all))))))))))))))))) (fun a2=> .iv a2 (.iv a2 (.iv a2
  (.iv a2 (.iv a2 (.j (a.Body=b.Body) (fun a0=> .iu a0 (.iu a0 (.iu a0 (.iu a0 (.iu a0 (.iu a0 (.iu a0 (.T (.q (Res.mk
  (.bool false) [] []) (by(simp;intro e;subst e;simp_all))))))))))) (fun a0=> .iv a0 (.iv a0 (.iv a0 (.iv a0 (.iv a0 (.iv a0 (.iv a0
  (.l ((↑(List.map encAttr a.Attrs).length:Int)=(↑(List.map encAttr b.Attrs).length:Int)) (a.Attrs.length=b.Attrs.length) (by simp only[List.length_map,Int.natCast_inj]) (fun a5=> .q (Res.mk
  (.bool false) [] []) (by(simp;intro e;subst e;simp_all))) (fun a5=> ?_))))))))))))))))))))))))))))))))))
 refine Sat.pLoop 4 (St.mk [(2,.ref (.head 2 0) 0 0),(3,.ref (.head 3 0) 0 0),(5,.int .i64 0)] [(.head 2 0,.box (encVersion a) true),
  (.head 3 0,.box (encVersion b) true)]) (by kernel_rfl) (fun(k:Nat)=>⟨[(2,.ref (.head 2 0) 0 0),(3,.ref (.head 3 0) 0 0),(5,.int .i64 k)],[(.head 2 0,.box (encVersion a) true),
  (.head 3 0,.box (encVersion b) true)]⟩) (fun k=>k≤a.Attrs.length∧a.Attrs.take k=b.Attrs.take k) (fun k=>a.Attrs.length-k) 0 rfl ?_ ?_
 ·simp
 ·intro k hk again
  refine(.kl encAttr a.Attrs k (fun a6=> .T (.em encAttr a.Attrs k ‹_› (fun a3 a9=> .T (.em encAttr b.Attrs k (by omega)
   (fun a4 aa=>Sat.pNodeEN (decide (a3.Key=a4.Key)&&(decide (a3.Val=a4.Val)&&Bool.true)) (a3.Key=a4.Key∧a3.Val=a4.Val∧True) (by kernel_rfl) (by simp only[Bool.and_eq_true,decide_eq_true_eq])
   (fun a7=> .q (Res.mk (.bool false) [] []) (by(clear again;(simp;intro e;subst e;simp_all)))) (fun a7=>have a8:=wI64' ((↑k:Int)+(1:Int)); .A (St.mk [(2,.ref
   (.head 2 0) 0 0),(3,.ref (.head 3 0) 0 0),(5,.int .i64 (IntKind.i64.wrap ((↑k:Int)+1)))] [(.head 2 0,.box (encVersion a) true),
   (.head 3 0,.box (encVersion b) true)]) (by simp[encVersion,a8]) (again (k+(1:Nat)) (by(clear again;(refine⟨by omega, ?_⟩;rw[take_succ ‹_›,take_succ ‹_›,hk.2];simp_all[Attr.ext_iff]))) (by omega))))))))
   (fun a6=> .q (Res.mk (.bool true) [] []) (by(clear again;(rw[List.take_of_length_le (by omega),List.take_of_length_le (by omega)]at hk;simp_all[Version.ext_iff,Stamp.ext_iff])))))
end Go.Ab.Tryz
namespace Go.Ab.Tryz
open Go
set_option maxRecDepth 100000
set_option maxHeartbeats 4000000
theorem c257 (l:List Head) (hl:l.length≤100000):X.call 257 [.tree (l.map encHead)] [] ⟨.bool (headsMay 0 l),[],[]⟩:=by
 refine spec_of ok Go.Proofs.Tryz.func257 ok257 ?_
 refine ?_
 refine Sat.pLoop 2 (St.mk [(0,.tree (List.map encHead l)),(3,.int .i64 0)] []) (by kernel_rfl) (fun(k:Nat)=>⟨[(0,.tree (l.map encHead)),(3,.int .i64 k)],[]⟩) (fun k=>k≤l.length∧headsMay 0 l=headsMay (lastH l k) (l.drop k)) (fun k=>l.length-k) 0 rfl ?_ ?_
 ·simp[lastH]
 ·intro k hk again
  obtain⟨hk,he⟩:=hk
  have h0:k=0∨∃j,k=j+1:=by cases k<;>simp
  refine(.kl encHead l k (fun _h9=> .T (.em encHead l k ‹_› (fun a4 a5=> .i (a4.Item<1) (fun a2=> .it a2 (.it a2 (.it a2 (.it a2 (.it a2 (.it a2 (.T (.T (.T (.T (.T (.T (.T (.T
   (.T (.T (.T (.T (.T (.T (.q (Res.mk (.bool false) [] []) (by(clear again;(rw[he,drop_at ‹_›];simp only[headsMay];rw[decide_eq_false (by omega)];rfl))))))))))))))))))))))))
   (fun a2=> .iF a2 (.iF a2 (.T (.eh encHead a5 (.iF a2 (.iF a2 (.iF a2 (.iF a2 (.i (6<a4.Item) (fun a1=> .it a1 (.it a1 (.it a1 (.it a1 (.it a1 (.it a1 (.it a1 (.T
   (.T (.T (.T (.T (.T (.q (Res.mk (.bool false) [] []) (by(clear again;(rw[he,drop_at ‹_›];simp only[headsMay];rw[decide_eq_false (by omega)];rfl))))))))))))))))) (fun a1=> .iF a1 (.iF a1
   (.T (.eh encHead a5 (.iF a1 (.iF a1 (.iF a1 (.c (@Tryz.c147 (a4.S)) (.iF a1 (.iF a1 (.m a4.S.may (fun a3=> .y a3 (.y a3 (.y a3 (.y a3 (.T (.q (Res.mk
   (.bool false) [] []) (by(clear again;(rw[he,drop_at ‹_›];rcases h0 with rfl|⟨j,rfl⟩<;>simp_all[headsMay,lastH]<;>omega))))))))) (fun a3=> .x a3 (.x a3
   (.k (0<(↑k:Int)) (0<k) (by simp only[ciLt]) (fun a0=> .et (0<(↑k:Int)) (by simp only[ciLt]) a0 (.et (0<(↑k:Int)) (by simp only[ciLt]) a0 (.T (.eh encHead a5
   (.et (0<(↑k:Int)) (by simp only[ciLt]) a0 (.et (0<(↑k:Int)) (by simp only[ciLt]) a0 (.et (0<(↑k:Int)) (by simp only[ciLt]) a0 (.et (0<(↑k:Int)) (by simp only[ciLt]) a0
   (.et (0<(↑k:Int)) (by simp only[ciLt]) a0 (.et (0<(↑k:Int)) (by simp only[ciLt]) a0
   (have a6:=wI64' ((↑k:Int)-(1:Int)); .k (0≤IntKind.i64.wrap ((↑k:Int)-1)) (0≤(↑k:Int)-1) (by simp only[a6])
   (fun a7=> .eM encHead l ((IntKind.i64.wrap ((↑k:Int)-1)).toNat) (((↑k:Int)-1).toNat) (by simp only[a6]) (by omega) (fun a8 ac=> .et (0<(↑k:Int)) (by simp only[ciLt]) a0
   (.et (0<(↑k:Int)) (by simp only[ciLt]) a0 (.et (0<(↑k:Int)) (by simp only[ciLt]) a0 (.x a3 (.et (0<(↑k:Int)) (by simp only[ciLt]) a0 (.x a3 (.i (a4.Item≤a8.Item)
   (fun a9=> .q (Res.mk (.bool false) [] []) (by(clear again;(rw[he,drop_at ‹_›];rcases h0 with rfl|⟨j,rfl⟩<;>simp_all[headsMay,lastH]<;>omega))))
   (fun a9=>have aa:=wI64' ((↑k:Int)+(1:Int)); .A (St.mk [(0,.tree (List.map encHead l)),(3,.int .i64 (IntKind.i64.wrap ((↑k:Int)+1)))] []) (by simp[aa]) (again (k+(1:Nat)) (by(clear again;(rw[he,drop_at ‹_›];rcases h0 with rfl|⟨j,rfl⟩<;>simp_all[headsMay,lastH]<;>omega))) (by omega)))))))))))
   (fun a7=>False.elim (by omega))))))))))))) (fun a0=> .eF (0<(↑k:Int)) (by simp only[ciLt]) a0 (.eF (0<(↑k:Int)) (by simp only[ciLt]) a0
   (.eF (0<(↑k:Int)) (by simp only[ciLt]) a0 (.eF (0<(↑k:Int)) (by simp only[ciLt]) a0 (.eF (0<(↑k:Int)) (by simp only[ciLt]) a0 (.eF (0<(↑k:Int)) (by simp only[ciLt]) a0
   (.eF (0<(↑k:Int)) (by simp only[ciLt]) a0 (.eF (0<(↑k:Int)) (by simp only[ciLt]) a0 (.eF (0<(↑k:Int)) (by simp only[ciLt]) a0 (.eF (0<(↑k:Int)) (by simp only[ciLt]) a0
   (.eF (0<(↑k:Int)) (by simp only[ciLt]) a0 (.x a3 (.eF (0<(↑k:Int)) (by simp only[ciLt]) a0 (.x a3 (.F
   (have ab:=wI64' ((↑k:Int)+(1:Int)); .A (St.mk [(0,.tree (List.map encHead l)),(3,.int .i64 (IntKind.i64.wrap ((↑k:Int)+1)))] []) (by simp[ab]) (again (k+(1:Nat)) (by(clear again;(rw[he,drop_at ‹_›];rcases h0 with rfl|⟨j,rfl⟩<;>simp_all[headsMay,lastH]<;>omega))) (by omega))))))))))))))))))))))))))))))))))))))))))))
   (fun _h9=> .q (Res.mk (.bool true) [] []) (by(clear again;(rw[he,List.drop_of_length_le (by omega)];simp[headsMay])))))
theorem c80 (v:Version) (key:Int) (hl:v.Attrs.length≤100000):X.call 80 [encVersion v,.int .i64 key] [] ⟨.tuple [.int .i64 ((attrOf v.Attrs key).getD 0),.bool (attrOf v.Attrs key).isSome],[],[]⟩:=by
 refine spec_of ok Go.Proofs.Tryz.func80 ok80 ?_
 refine ?_
 refine Sat.pLoop 2 (St.mk [(1,.int .i64 key),(2,.ref (.head 2 0) 0 0),(6,.int .i64 0)] [(.head 2 0,.box (encVersion v) true)]) (by kernel_rfl) (fun(k:Nat)=>⟨[(1,.int .i64 key),(2,.ref
  (.head 2 0) 0 0),(6,.int .i64 k)],[(.head 2 0,.box (encVersion v) true)]⟩) (fun k=>k≤v.Attrs.length∧attrOf v.Attrs key=attrOf (v.Attrs.drop k) key) (fun k=>v.Attrs.length-k) 0 rfl ?_ ?_
 ·simp
 ·intro k hk again
  refine(.kl encAttr v.Attrs k (fun _h7=> .T (.em encAttr v.Attrs k ‹_› (fun _x8 a0=> .i (_x8.Key=key) (fun a1=> .T (.eh encAttr a0
   (.q (Res.mk (AV.tuple [.int .i64 _x8.Val,.bool true]) [] []) (by(clear again;(rw[hk.2,drop_at ‹_›];simp_all[attrOf]))))))
   (fun a1=>have a2:=wI64' ((↑k:Int)+(1:Int)); .A (St.mk [(1,.int .i64 key),(2,.ref
   (.head 2 0) 0 0),(6,.int .i64 (IntKind.i64.wrap ((↑k:Int)+1)))] [(.head 2 0,.box (encVersion v) true)]) (by simp[encVersion,a2]) (again (k+(1:Nat)) (by(clear again;(rw[drop_at ‹_›]at hk;simp_all[attrOf];omega))) (by omega))))))
   (fun _h7=> .q (Res.mk (AV.tuple [.int .i64 0,.bool false]) [] []) (by(clear again;(rw[hk.2,List.drop_of_length_le (by omega)];rfl)))))
end Go.Ab.Tryz
namespace Go.Ab.Tryz
open Go
set_option maxRecDepth 100000
set_option maxHeartbeats 4000000
theorem c36 (a b:List Version) (ha:a.length≤100000) (hv:∀v∈a,v.Attrs.length≤100000):X.call 36 [.tree (a.map encVersion),.tree (b.map encVersion)] [] ⟨.bool (decide (a=b)),[],[]⟩:=by
 refine spec_of ok Go.Proofs.Tryz.func36 ok36 ?_
 refine(.l ((↑(List.map encVersion a).length:Int)=(↑(List.map encVersion b).length:Int)) (a.length=b.length) (by simp only[List.length_map,Int.natCast_inj]) (fun _h5=> .q (Res.mk
  (.bool false) [] []) (by(simp;intro e;subst e;simp_all))) (fun _h5=> ?_))
 refine Sat.pLoop 4 (St.mk [(0,.tree (List.map encVersion a)),(1,.tree (List.map encVersion b)),(5,.int .i64 0)] []) (by kernel_rfl) (fun(k:Nat)=>⟨[(0,.tree (a.map encVersion)),(1,.tree (b.map encVersion)),(5,.int .i64 k)],[]⟩) (fun k=>k≤a.length∧a.take k=b.take k) (fun k=>a.length-k) 0 rfl ?_ ?_
 ·simp
 ·intro k hk again
  refine(.kl encVersion a k (fun _h9=> .T (.em encVersion a k ‹_› (fun a0 a2=>have a5:=(hv a0 (List.mem_of_getElem? a2)); .T (.em encVersion b k (by omega)
   (fun a1 a6=> .c (@Tryz.c27 (a0) (a1) ‹_›) (.j (a0=a1) (fun a3=> .q (Res.mk (.bool false) [] []) (by(clear again;(simp;intro e;subst e;simp_all))))
   (fun a3=>have a4:=wI64' ((↑k:Int)+(1:Int)); .A (St.mk [(0,.tree (List.map encVersion a)),(1,.tree (List.map encVersion b)),(5,.int .i64 (IntKind.i64.wrap ((↑k:Int)+1)))] []) (by simp[a4]) (again (k+(1:Nat)) (by(clear again;(refine⟨by omega, ?_⟩;rw[take_succ ‹_›,take_succ ‹_›,hk.2];simp_all))) (by omega)))))))))
   (fun _h9=> .q (Res.mk (.bool true) [] []) (by(clear again;(rw[List.take_of_length_le (by omega),List.take_of_length_le (by omega)]at hk;simp_all)))))
theorem c149 (l:List Head) (h:Head) (hl:l.length≤1000):X.call 149 [.tree (l.map encHead),encHead h] [] ⟨.tree ((putHead l h).map encHead),[],[]⟩:=by
 refine spec_of ok Go.Proofs.Tryz.func149 ok149 ?_
 refine(.c (@Tryz.c29 (l) (h.Item) (by omega)) (.c (@Tryz.c28 (h.S) (headAt l h.Item)) (.i (h.S.cmp (headAt l h.Item)≤0) (fun _h4=> .z encHead l 4 (fun _=>rfl)
  (.k ((0+(List.map encHead l).length)*(32:Nat)≤140737488355328) ((0+l.length)*(32:Nat)≤140737488355328) (by simp only[List.length_map]) (fun _h5=> .T
  (have _w6:List.take ((0:Nat)+(List.map encHead l).length) (List.map encHead l)=List.map encHead l:=List.take_of_length_le (by simp); .q (Res.mk
  (.tree (List.take (0+(List.map encHead l).length) (List.map encHead l))) [] []) (by(simp_all[putHead];done)))) (fun _h5=>False.elim (by omega)))) (fun _h4=> ?_))))
 have e0:putHead l h=insGo l h:=by simp[putHead,_h4]
 rw[e0]
 refine Sat.pLoop 6 (St.mk [(0,.tree (List.map encHead l)),(3,.ref (.head 3 0) 0 0),(5,.sref (.head 5 0) 0 0),(6,.bool false),(7,.int .i64 0)] [(.head 3 0,.box (encHead h) true),
  (.head 5 0,.row 4 [] true true)]) (by kernel_rfl) (fun(p:Nat×Bool×List Head)=>⟨[(0,.tree (l.map encHead)),(3,.ref (.head 3 0) 0 0),(5,.sref
  (.head 5 0) 0 p.2.2.length),(6,.bool p.2.1),(7,.int .i64 p.1)],[(.head 3 0,.box (encHead h) true),
  (.head 5 0,.row 4 (p.2.2.map encHead) true true)]⟩) (fun p=>p.1≤l.length∧p.2.2.length≤p.1+p.2.1.toNat∧(if p.2.1 then p.2.2++(l.drop p.1).filter (fun y=>decide (y.Item≠h.Item))=insGo l h else p.2.2++insGo (l.drop p.1) h=insGo l h)) (fun p=>l.length-p.1) (0,false,[]) rfl ?_ ?_
 ·exact⟨by simp,by simp,rfl⟩
 ·rintro⟨k,put,acc⟩ hI again
  obtain⟨hk,hal,hs⟩:=hI
  cases put<;>simp only[Bool.toNat_false,Bool.toNat_true,if_true,if_false,Bool.false_eq_true]at hk hal hs
  ·refine(.kl encHead l k (fun a3=> .T (.T (.T (.T (.em encHead l k ‹_› (fun a0 a1=> .T (.T (.T (.T (.T (.T (.i (h.Item≤a0.Item)
    (fun a4=> .i ((acc.length+1)*(32:Nat)≤140737488355328) (fun a5=> .k (acc.length=(List.map encHead acc).length) (True) (by simp only[List.length_map]) (fun a2=> .T (.eh encHead a1
    (.j (a0.Item=h.Item) (fun a9=> .T (.eh encHead a1 (.i ((acc.length+1+1)*(32:Nat)≤140737488355328)
    (fun aa=> .et (acc.length+1=(List.map encHead acc++[encHead h]).length) (by simp only[List.length_map,List.length_append,List.length_cons,List.length_nil]) a2
    (have a6:=wI64' ((↑k:Int)+(1:Int)); .A (St.mk [(0,.tree (List.map encHead l)),(3,.ref (.head 3 0) 0 0),(5,.sref
    (.head 5 0) 0 (acc.length+1+1)),(6,.bool true),(7,.int .i64 (IntKind.i64.wrap ((↑k:Int)+1)))] [(.head 3 0,.box (encHead h) true),
    (.head 5 0,.row 4 (List.map encHead acc++[encHead h]++[encHead a0]) true true)]) (by simp[encHead,a6]) (again ((k+(1:Nat),Bool.true,acc++[h]++[a0])) ⟨(by dsimp only;omega),⟨(by dsimp only;(clear again;(simp;omega))),(by dsimp only;(clear again;(rw[drop_at ‹_›]at hs;simp_all[insGo];done)))⟩⟩ (by dsimp only;omega))))
    (fun aa=>False.elim (by omega))))) (fun a9=>have ab:=wI64' ((↑k:Int)+(1:Int)); .A (St.mk [(0,.tree (List.map encHead l)),(3,.ref (.head 3 0) 0 0),(5,.sref
    (.head 5 0) 0 (acc.length+1)),(6,.bool true),(7,.int .i64 (IntKind.i64.wrap ((↑k:Int)+1)))] [(.head 3 0,.box (encHead h) true),
    (.head 5 0,.row 4 (List.map encHead acc++[encHead h]) true true)]) (by simp[encHead,ab]) (again ((k+(1:Nat),Bool.true,acc++[h])) ⟨(by dsimp only;omega),⟨(by dsimp only;(clear again;(simp;omega))),(by dsimp only;(clear again;(rw[drop_at ‹_›]at hs;simp_all[insGo];done)))⟩⟩ (by dsimp only;omega))))))
    (fun a2=>(a2 trivial).elim)) (fun a5=>False.elim (by omega))) (fun a4=> .T (.eh encHead a1 (.j (a0.Item=h.Item) (fun ac=> .T (.eh encHead a1
    (.i ((acc.length+1)*(32:Nat)≤140737488355328) (fun ad=> .k (acc.length=(List.map encHead acc).length) (True) (by simp only[List.length_map])
    (fun a7=>have ae:=wI64' ((↑k:Int)+(1:Int)); .A (St.mk [(0,.tree (List.map encHead l)),(3,.ref (.head 3 0) 0 0),(5,.sref
    (.head 5 0) 0 (acc.length+1)),(6,.bool false),(7,.int .i64 (IntKind.i64.wrap ((↑k:Int)+1)))] [(.head 3 0,.box (encHead h) true),
    (.head 5 0,.row 4 (List.map encHead acc++[encHead a0]) true true)]) (by simp[encHead,ae]) (again ((k+(1:Nat),Bool.false,acc++[a0])) ⟨(by dsimp only;omega),⟨(by dsimp only;(clear again;(simp;omega))),(by dsimp only;(clear again;(rw[drop_at ‹_›]at hs;simp_all[insGo];done)))⟩⟩ (by dsimp only;omega)))
    (fun a7=>(a7 trivial).elim)) (fun ad=>False.elim (by omega))))) (fun ac=>False.elim (by omega))))))))))))))))) (fun a3=> .T (.i ((acc.length+1)*(32:Nat)≤140737488355328)
    (fun af=> .k (acc.length=(List.map encHead acc).length) (True) (by simp only[List.length_map])
    (fun a8=>have ai:List.take (acc.length+(1:Nat)) (List.map encHead acc++[encHead h])=List.map encHead acc++[encHead h]:=List.take_of_length_le (by simp); .q (Res.mk
    (.tree (List.take (acc.length+1) (List.map encHead acc++[encHead h]))) [] []) (by(clear again;(rw[List.drop_of_length_le (by omega)]at hs;rw[←hs];simp[insGo,List.take_of_length_le]))))
    (fun a8=>(a8 trivial).elim)) (fun af=>False.elim (by omega)))))
  ·refine(.kl encHead l k (fun a3=> .F (.F (.F (.F (.F (.F (.F (.F (.F (.F (.T (.em encHead l k ‹_› (fun a0 a1=> .j (a0.Item=h.Item) (fun a4=> .T (.eh encHead a1
    (.i ((acc.length+1)*(32:Nat)≤140737488355328) (fun a5=> .k (acc.length=(List.map encHead acc).length) (True) (by simp only[List.length_map])
    (fun a2=>have ag:=wI64' ((↑k:Int)+(1:Int)); .A (St.mk [(0,.tree (List.map encHead l)),(3,.ref (.head 3 0) 0 0),(5,.sref
    (.head 5 0) 0 (acc.length+1)),(6,.bool true),(7,.int .i64 (IntKind.i64.wrap ((↑k:Int)+1)))] [(.head 3 0,.box (encHead h) true),
    (.head 5 0,.row 4 (List.map encHead acc++[encHead a0]) true true)]) (by simp[encHead,ag]) (again ((k+(1:Nat),Bool.true,acc++[a0])) ⟨(by dsimp only;omega),⟨(by dsimp only;(clear again;(simp;omega))),(by dsimp only;(clear again;(rw[drop_at ‹_›]at hs;simp_all[insGo];done)))⟩⟩ (by dsimp only;omega)))
    (fun a2=>(a2 trivial).elim)) (fun a5=>False.elim (by omega))))) (fun a4=>have ah:=wI64' ((↑k:Int)+(1:Int)); .A (St.mk [(0,.tree (List.map encHead l)),(3,.ref
    (.head 3 0) 0 0),(5,.sref (.head 5 0) 0 acc.length),(6,.bool true),(7,.int .i64 (IntKind.i64.wrap ((↑k:Int)+1)))] [(.head 3 0,.box (encHead h) true),
    (.head 5 0,.row 4 (List.map encHead acc) true true)]) (by simp[encHead,ah]) (again ((k+(1:Nat),Bool.true,acc)) ⟨(by dsimp only;omega),⟨(by dsimp only;omega),(by dsimp only;(clear again;(rw[drop_at ‹_›]at hs;simp_all[insGo];done)))⟩⟩ (by dsimp only;omega))))))))))))))))
    (fun a3=> .F (have a6:List.take acc.length (List.map encHead acc)=List.map encHead acc:=List.take_of_length_le (by simp); .q (Res.mk
    (.tree (List.take acc.length (List.map encHead acc))) [] []) (by(clear again;(rw[List.drop_of_length_le (by omega)]at hs;simp_all[insGo];done))))))
theorem c114 (l:List Version) (v:Version) (hl:l.length≤1000):X.call 114 [.tree (l.map encVersion),encVersion v] [] ⟨.tree ((putV l v).map encVersion),[],[]⟩:=by
 refine spec_of ok Go.Proofs.Tryz.func114 ok114 ?_
 have again_l:putV l v=insV l v→Sat X 114 (loopD X.cfg 114 Go.Proofs.Tryz.f114 0 7 ⟨[(0,.tree (l.map encVersion)),(3,.ref (.head 3 0) 0 0),(7,.sref (.head 7 0) 0 0),(8,.bool false),(9,.int .i64 0)],[(.head 3 0,.box (encVersion v) true),(.head 7 0,.row 8 [] true true)]⟩) (· =⟨.tree ((putV l v).map encVersion),[],[]⟩):=by
  intro e0
  rw[e0]
  refine Sat.pLoop 7 (St.mk [(0,.tree (List.map encVersion l)),(3,.ref (.head 3 0) 0 0),(7,.sref (.head 7 0) 0 0),(8,.bool false),(9,.int .i64 0)] [(.head 3 0,.box (encVersion v) true),
   (.head 7 0,.row 8 [] true true)]) (by kernel_rfl) (fun(p:Nat×Bool×List Version)=>⟨[(0,.tree (l.map encVersion)),(3,.ref (.head 3 0) 0 0),(7,.sref
   (.head 7 0) 0 p.2.2.length),(8,.bool p.2.1),(9,.int .i64 p.1)],[(.head 3 0,.box (encVersion v) true),
   (.head 7 0,.row 8 (p.2.2.map encVersion) true true)]⟩) (fun p=>p.1≤l.length∧p.2.2.length≤p.1+p.2.1.toNat∧(if p.2.1 then p.2.2++(l.drop p.1).filter (fun y=>decide (y.Item≠v.Item))=insV l v else p.2.2++insV (l.drop p.1) v=insV l v)) (fun p=>l.length-p.1) (0,false,[]) rfl ?_ ?_
  ·exact⟨by simp,by simp,rfl⟩
  ·rintro⟨k,put,acc⟩ hI again
   obtain⟨hk,hal,hs⟩:=hI
   cases put<;>simp only[Bool.toNat_false,Bool.toNat_true,if_true,if_false,Bool.false_eq_true]at hk hal hs
   ·refine(.kl encVersion l k (fun a3=> .T (.T (.T (.T (.em encVersion l k ‹_› (fun a0 a1=> .T (.T (.T (.T (.T (.T (.i (v.Item≤a0.Item)
     (fun a4=> .i ((acc.length+1)*(96:Nat)≤140737488355328) (fun a5=> .k (acc.length=(List.map encVersion acc).length) (True) (by simp only[List.length_map]) (fun a2=> .T
     (.eh encVersion a1 (.j (a0.Item=v.Item) (fun a9=> .T (.eh encVersion a1 (.i ((acc.length+1+1)*(96:Nat)≤140737488355328)
     (fun aa=> .et (acc.length+1=(List.map encVersion acc++[encVersion v]).length) (by simp only[List.length_map,List.length_append,List.length_cons,List.length_nil]) a2
     (have a6:=wI64' ((↑k:Int)+(1:Int)); .A (St.mk [(0,.tree (List.map encVersion l)),(3,.ref (.head 3 0) 0 0),(7,.sref
     (.head 7 0) 0 (acc.length+1+1)),(8,.bool true),(9,.int .i64 (IntKind.i64.wrap ((↑k:Int)+1)))] [(.head 3 0,.box (encVersion v) true),
     (.head 7 0,.row 8 (List.map encVersion acc++[encVersion v]++[encVersion a0]) true true)]) (by simp[encVersion,a6]) (again ((k+(1:Nat),Bool.true,acc++[v]++[a0])) ⟨(by dsimp only;omega),⟨(by dsimp only;(clear again;(simp;omega))),(by dsimp only;(clear again;(rw[drop_at ‹_›]at hs;simp_all[insV];done)))⟩⟩ (by dsimp only;omega))))
     (fun aa=>False.elim (by omega))))) (fun a9=>have ab:=wI64' ((↑k:Int)+(1:Int)); .A (St.mk [(0,.tree (List.map encVersion l)),(3,.ref (.head 3 0) 0 0),(7,.sref
     (.head 7 0) 0 (acc.length+1)),(8,.bool true),(9,.int .i64 (IntKind.i64.wrap ((↑k:Int)+1)))] [(.head 3 0,.box (encVersion v) true),
     (.head 7 0,.row 8 (List.map encVersion acc++[encVersion v]) true true)]) (by simp[encVersion,ab]) (again ((k+(1:Nat),Bool.true,acc++[v])) ⟨(by dsimp only;omega),⟨(by dsimp only;(clear again;(simp;omega))),(by dsimp only;(clear again;(rw[drop_at ‹_›]at hs;simp_all[insV];done)))⟩⟩ (by dsimp only;omega))))))
     (fun a2=>(a2 trivial).elim)) (fun a5=>False.elim (by omega))) (fun a4=> .T (.eh encVersion a1 (.j (a0.Item=v.Item) (fun ac=> .T (.eh encVersion a1
     (.i ((acc.length+1)*(96:Nat)≤140737488355328) (fun ad=> .k (acc.length=(List.map encVersion acc).length) (True) (by simp only[List.length_map])
     (fun a7=>have ae:=wI64' ((↑k:Int)+(1:Int)); .A (St.mk [(0,.tree (List.map encVersion l)),(3,.ref (.head 3 0) 0 0),(7,.sref
     (.head 7 0) 0 (acc.length+1)),(8,.bool false),(9,.int .i64 (IntKind.i64.wrap ((↑k:Int)+1)))] [(.head 3 0,.box (encVersion v) true),
     (.head 7 0,.row 8 (List.map encVersion acc++[encVersion a0]) true true)]) (by simp[encVersion,ae]) (again ((k+(1:Nat),Bool.false,acc++[a0])) ⟨(by dsimp only;omega),⟨(by dsimp only;(clear again;(simp;omega))),(by dsimp only;(clear again;(rw[drop_at ‹_›]at hs;simp_all[insV];done)))⟩⟩ (by dsimp only;omega)))
     (fun a7=>(a7 trivial).elim)) (fun ad=>False.elim (by omega))))) (fun ac=>False.elim (by omega))))))))))))))))) (fun a3=> .T (.i ((acc.length+1)*(96:Nat)≤140737488355328)
     (fun af=> .k (acc.length=(List.map encVersion acc).length) (True) (by simp only[List.length_map])
     (fun a8=>have ai:List.take (acc.length+(1:Nat)) (List.map encVersion acc++[encVersion v])=List.map encVersion acc++[encVersion v]:=List.take_of_length_le (by simp); .q (Res.mk
     (.tree (List.take (acc.length+1) (List.map encVersion acc++[encVersion v]))) [] []) (by(clear again;(rw[List.drop_of_length_le (by omega)]at hs;rw[←hs];simp[insV,List.take_of_length_le]))))
     (fun a8=>(a8 trivial).elim)) (fun af=>False.elim (by omega)))))
   ·refine(.kl encVersion l k (fun a3=> .F (.F (.F (.F (.F (.F (.F (.F (.F (.F (.T (.em encVersion l k ‹_› (fun a0 a1=> .j (a0.Item=v.Item) (fun a4=> .T (.eh encVersion a1
     (.i ((acc.length+1)*(96:Nat)≤140737488355328) (fun a5=> .k (acc.length=(List.map encVersion acc).length) (True) (by simp only[List.length_map])
     (fun a2=>have ag:=wI64' ((↑k:Int)+(1:Int)); .A (St.mk [(0,.tree (List.map encVersion l)),(3,.ref (.head 3 0) 0 0),(7,.sref
     (.head 7 0) 0 (acc.length+1)),(8,.bool true),(9,.int .i64 (IntKind.i64.wrap ((↑k:Int)+1)))] [(.head 3 0,.box (encVersion v) true),
     (.head 7 0,.row 8 (List.map encVersion acc++[encVersion a0]) true true)]) (by simp[encVersion,ag]) (again ((k+(1:Nat),Bool.true,acc++[a0])) ⟨(by dsimp only;omega),⟨(by dsimp only;(clear again;(simp;omega))),(by dsimp only;(clear again;(rw[drop_at ‹_›]at hs;simp_all[insV];done)))⟩⟩ (by dsimp only;omega)))
     (fun a2=>(a2 trivial).elim)) (fun a5=>False.elim (by omega))))) (fun a4=>have ah:=wI64' ((↑k:Int)+(1:Int)); .A (St.mk [(0,.tree (List.map encVersion l)),(3,.ref
     (.head 3 0) 0 0),(7,.sref (.head 7 0) 0 acc.length),(8,.bool true),(9,.int .i64 (IntKind.i64.wrap ((↑k:Int)+1)))] [(.head 3 0,.box (encVersion v) true),
     (.head 7 0,.row 8 (List.map encVersion acc) true true)]) (by simp[encVersion,ah]) (again ((k+(1:Nat),Bool.true,acc)) ⟨(by dsimp only;omega),⟨(by dsimp only;omega),(by dsimp only;(clear again;(rw[drop_at ‹_›]at hs;simp_all[insV];done)))⟩⟩ (by dsimp only;omega))))))))))))))))
     (fun a3=> .F (have a6:List.take acc.length (List.map encVersion acc)=List.map encVersion acc:=List.take_of_length_le (by simp); .q (Res.mk
     (.tree (List.take acc.length (List.map encVersion acc))) [] []) (by(clear again;(rw[List.drop_of_length_le (by omega)]at hs;simp_all[insV];done))))))
 refine(.c (@Tryz.c39 (l) (v.Item) (by omega)) (.n ((findV l v.Item).isSome) (fun _h5=> .t _h5 (.t _h5 (.t _h5 (.t _h5
  (.c (@Tryz.c28 (((findV l v.Item).getD (Version.mk (0:Int) (Stamp.mk (0:Int) (0:Int) (0:Int)) Bool.false [] [] [])).S) (v.S)) (.t _h5 (.t _h5
  (.i (0<((findV l v.Item).getD (Version.mk 0 (Stamp.mk 0 0 0) false [] [] [])).S.cmp v.S) (fun _h6=> .z encVersion l 8 (fun _=>rfl)
  (.k ((0+(List.map encVersion l).length)*(96:Nat)≤140737488355328) ((0+l.length)*(96:Nat)≤140737488355328) (by simp only[List.length_map]) (fun _h7=> .T
  (have _w8:List.take ((0:Nat)+(List.map encVersion l).length) (List.map encVersion l)=List.map encVersion l:=List.take_of_length_le (by simp); .q (Res.mk
  (.tree (List.take (0+(List.map encVersion l).length) (List.map encVersion l))) [] []) (by(clear again_l;(cases hf:findV l v.Item<;>simp_all[putV];done)))))
  (fun _h7=>False.elim (by omega)))) (fun _h6=>Sat.pJoinE (L:=loopD X.cfg (114:FuncId) Proofs.Tryz.f114 0 7) (St.mk [(0,.tree (List.map encVersion l)),(3,.ref (.head 3 0) 0 0),(7,.sref
  (.head 7 0) 0 0),(8,.bool false),(9,.int .i64 0)] [(.head 3 0,.box (encVersion v) true),
  (.head 7 0,.row 8 [] true true)]) (by kernel_rfl) rfl rfl (again_l (by(clear again_l;grind [putV])))))))))))) (fun _h5=> .f _h5 (.f _h5 (.f _h5 (.f _h5 (.f _h5 (.f _h5 (.F
  (Sat.pJoinE (L:=loopD X.cfg (114:FuncId) Proofs.Tryz.f114 0 7) (St.mk [(0,.tree (List.map encVersion l)),(3,.ref (.head 3 0) 0 0),(7,.sref
  (.head 7 0) 0 0),(8,.bool false),(9,.int .i64 0)] [(.head 3 0,.box (encVersion v) true),
  (.head 7 0,.row 8 [] true true)]) (by kernel_rfl) rfl rfl (again_l (by(clear again_l;(cases hf:findV l v.Item<;>simp_all[putV];done))))))))))))))
end Go.Ab.Tryz
namespace Go.Ab.Tryz
open Go
set_option maxRecDepth 100000
set_option maxHeartbeats 4000000
def lastA (l:List Attr):Nat→Int
 | 0=> -1
 |k+1=>((l[k]?).map Attr.Key).getD (-1)
theorem c96 (v:Version) (ha:v.Attrs.length≤100000) (ht:v.Tag.length≤100000) (hb:v.Body.length≤100000):X.call 96 [encVersion v] [] ⟨.bool v.may,[],[]⟩:=by
 refine spec_of ok Go.Proofs.Tryz.func96 ok96 ?_
 have again_l:v.may=attrsMay (-1) v.Attrs→v.Attrs.length≤3→Sat X 96 (loopD X.cfg 96 Go.Proofs.Tryz.f96 0 4 ⟨[(1,.ref (.head 1 0) 0 0),(3,.int .i64 0)],[(.head 1 0,.box (encVersion v) true)]⟩) (· =⟨.bool v.may,[],[]⟩):=by
  intro e0 e1
  rw[e0]
  refine Sat.pLoop 4 (St.mk [(1,.ref (.head 1 0) 0 0),(3,.int .i64 0)] [(.head 1 0,.box (encVersion v) true)]) (by kernel_rfl) (fun(k:Nat)=>⟨[(1,.ref
   (.head 1 0) 0 0),(3,.int .i64 k)],[(.head 1 0,.box (encVersion v) true)]⟩) (fun k=>k≤v.Attrs.length∧attrsMay (-1) v.Attrs=attrsMay (lastA v.Attrs k) (v.Attrs.drop k)∧ -1≤lastA v.Attrs k) (fun k=>v.Attrs.length-k) 0 rfl ?_ ?_
  ·simp[lastA]
  ·intro k hI again
   have hk:=hI.1
   have hs:=hI.2.1
   have hl:=hI.2.2
   clear hI
   have h0:k=0∨∃j,k=j+1:=by cases k<;>simp
   refine(.kl encAttr v.Attrs k (fun a8=> .T (.em encAttr v.Attrs k ‹_› (fun a6 ae=> .i (a6.Key<0) (fun a4=> .it a4 (.it a4 (.it a4 (.T (.T (.T (.T (.T (.T (.T (.T (.T (.T (.T (.T
    (.T (.T (.q (Res.mk (.bool false) [] []) (by(clear again;(rw[hs,drop_at ‹_›];simp only[attrsMay];rw[decide_eq_false (by omega)];rfl))))))))))))))))))))) (fun a4=> .iF a4 (.iF a4
    (.iF a4 (.i (4≤a6.Key) (fun a5=> .it a5 (.it a5 (.it a5 (.T (.T (.T (.T (.T (.T (.T (.T (.T (.T (.q (Res.mk
    (.bool false) [] []) (by(clear again;(rw[hs,drop_at ‹_›];simp only[attrsMay];rw[decide_eq_false (by omega)];rfl))))))))))))))))) (fun a5=> .iF a5 (.iF a5 (.iF a5 (.i (a6.Val<0)
    (fun a1=> .it a1 (.it a1 (.it a1 (.T (.T (.T (.T (.T (.T (.q (Res.mk
    (.bool false) [] []) (by(clear again;(rw[hs,drop_at ‹_›];simp only[attrsMay];rw[decide_eq_false (by omega)];rfl))))))))))))) (fun a1=> .iF a1 (.iF a1 (.iF a1 (.i (99<a6.Val)
    (fun a2=> .it a2 (.it a2 (.it a2 (.it a2 (.T (.q (Res.mk (.bool false) [] []) (by(clear again;(rw[hs,drop_at ‹_›];simp only[attrsMay];rw[decide_eq_false (by omega)];rfl)))))))))
    (fun a2=> .iF a2 (.iF a2 (.k (0<(↑k:Int)) (0<k) (by simp only[ciLt]) (fun a0=> .et (0<(↑k:Int)) (by simp only[ciLt]) a0 (.et (0<(↑k:Int)) (by simp only[ciLt]) a0
    (.et (0<(↑k:Int)) (by simp only[ciLt]) a0 (.et (0<(↑k:Int)) (by simp only[ciLt]) a0 (.et (0<(↑k:Int)) (by simp only[ciLt]) a0 (.et (0<(↑k:Int)) (by simp only[ciLt]) a0
    (have a7:=wI64' ((↑k:Int)-(1:Int)); .k (0≤IntKind.i64.wrap ((↑k:Int)-1)) (0≤(↑k:Int)-1) (by simp only[a7])
    (fun a9=> .eM encAttr v.Attrs ((IntKind.i64.wrap ((↑k:Int)-1)).toNat) (((↑k:Int)-1).toNat) (by simp only[a7]) (by omega) (fun aa af=> .et (0<(↑k:Int)) (by simp only[ciLt]) a0
    (.et (0<(↑k:Int)) (by simp only[ciLt]) a0 (.et (0<(↑k:Int)) (by simp only[ciLt]) a0 (.iF a2 (.et (0<(↑k:Int)) (by simp only[ciLt]) a0 (.iF a2 (.i (a6.Key≤aa.Key)
    (fun ab=> .q (Res.mk (.bool false) [] []) (by(clear again;(rw[hs,drop_at ‹_›];rcases h0 with rfl|⟨j,rfl⟩<;>simp_all[attrsMay,lastA]<;>omega))))
    (fun ab=>have ac:=wI64' ((↑k:Int)+(1:Int)); .A (St.mk [(1,.ref
    (.head 1 0) 0 0),(3,.int .i64 (IntKind.i64.wrap ((↑k:Int)+1)))] [(.head 1 0,.box (encVersion v) true)]) (by simp[encVersion,ac]) (again (k+(1:Nat)) ⟨(by omega),⟨(by(clear again;(rw[hs,drop_at ‹_›];rcases h0 with rfl|⟨j,rfl⟩<;>simp_all[attrsMay,lastA]<;>omega))),(by(clear again;(rw[drop_at ‹_›]at hs;rcases h0 with rfl|⟨j,rfl⟩<;>simp_all[attrsMay,lastA]<;>omega)))⟩⟩ (by omega)))))))))))
    (fun a9=>False.elim (by omega))))))))) (fun a0=> .eF (0<(↑k:Int)) (by simp only[ciLt]) a0 (.eF (0<(↑k:Int)) (by simp only[ciLt]) a0 (.eF (0<(↑k:Int)) (by simp only[ciLt]) a0
    (.eF (0<(↑k:Int)) (by simp only[ciLt]) a0 (.eF (0<(↑k:Int)) (by simp only[ciLt]) a0 (.eF (0<(↑k:Int)) (by simp only[ciLt]) a0 (.eF (0<(↑k:Int)) (by simp only[ciLt]) a0
    (.eF (0<(↑k:Int)) (by simp only[ciLt]) a0 (.eF (0<(↑k:Int)) (by simp only[ciLt]) a0 (.iF a2 (.eF (0<(↑k:Int)) (by simp only[ciLt]) a0 (.iF a2 (.F
    (have ad:=wI64' ((↑k:Int)+(1:Int)); .A (St.mk [(1,.ref
    (.head 1 0) 0 0),(3,.int .i64 (IntKind.i64.wrap ((↑k:Int)+1)))] [(.head 1 0,.box (encVersion v) true)]) (by simp[encVersion,ad]) (again (k+(1:Nat)) ⟨(by omega),⟨(by(clear again;(rw[hs,drop_at ‹_›];rcases h0 with rfl|⟨j,rfl⟩<;>simp_all[attrsMay,lastA]<;>omega))),(by(clear again;(rw[drop_at ‹_›]at hs;rcases h0 with rfl|⟨j,rfl⟩<;>simp_all[attrsMay,lastA]<;>omega)))⟩⟩ (by omega))))))))))))))))))))))))))))))))))
    (fun a8=> .q (Res.mk (.bool true) [] []) (by(clear again;(rw[hs,List.drop_of_length_le (by omega)];simp[attrsMay])))))
 refine(.i (v.Item<1) (fun _h6=> .it _h6 (.it _h6 (.it _h6 (.T (.T (.T (.T (.T (.T (.T (.T (.T (.T (.T (.T (.T (.T (.T (.T (.T (.T (.T (.T (.T (.T (.T (.T (.T (.T (.q (Res.mk
  (.bool false) [] []) (by(clear again_l;(simp[Version.may];omega))))))))))))))))))))))))))))))))) (fun _h6=> .iF _h6 (.iF _h6 (.iF _h6 (.i (6<v.Item) (fun _h7=> .it _h7 (.it _h7 (.it _h7
  (.it _h7 (.T (.T (.T (.T (.T (.T (.T (.T (.T (.T (.T (.T (.T (.T (.T (.T (.T (.T (.T (.T (.T (.q (Res.mk (.bool false) [] []) (by(clear again_l;(simp[Version.may];omega)))))))))))))))))))))))))))))
  (fun _h7=> .iF _h7 (.iF _h7 (.c (@Tryz.c147 (v.S)) (.iF _h7 (.iF _h7 (.m v.S.may (fun _h8=> .y _h8 (.y _h8 (.y _h8 (.y _h8 (.T (.T (.T (.T (.T (.T (.T (.T (.T (.T (.T (.T (.T (.T (.T (.T (.q (Res.mk
  (.bool false) [] []) (by(clear again_l;(simp_all[Version.may];done)))))))))))))))))))))))) (fun _h8=> .x _h8 (.x _h8 (.x _h8 (.x _h8
  (.k (3<(↑(List.map encAttr v.Attrs).length:Int)) (3<v.Attrs.length) (by simp only[List.length_map,ciLt])
  (fun _h9=> .et (3<(↑(List.map encAttr v.Attrs).length:Int)) (by simp only[List.length_map,ciLt]) _h9
  (.et (3<(↑(List.map encAttr v.Attrs).length:Int)) (by simp only[List.length_map,ciLt]) _h9 (.et (3<(↑(List.map encAttr v.Attrs).length:Int)) (by simp only[List.length_map,ciLt]) _h9
  (.et (3<(↑(List.map encAttr v.Attrs).length:Int)) (by simp only[List.length_map,ciLt]) _h9 (.T (.T (.T (.T (.T (.T (.T (.T (.T (.T (.T (.q (Res.mk
  (.bool false) [] []) (by(clear again_l;(simp[Version.may];omega))))))))))))))))))) (fun _h9=> .eF (3<(↑(List.map encAttr v.Attrs).length:Int)) (by simp only[List.length_map,ciLt]) _h9
  (.eF (3<(↑(List.map encAttr v.Attrs).length:Int)) (by simp only[List.length_map,ciLt]) _h9 (.c (@Tryz.c148 (v.Tag) ((6:Int)) ‹_›)
  (.eF (3<(↑(List.map encAttr v.Attrs).length:Int)) (by simp only[List.length_map,ciLt]) _h9 (.eF (3<(↑(List.map encAttr v.Attrs).length:Int)) (by simp only[List.length_map,ciLt]) _h9
  (Sat.pNodeEN (v.Tag.all isLetter&&decide ((↑v.Tag.length:Int)≤(6:Int))) (v.Tag.all isLetter=Bool.true∧v.Tag.length≤(6:Nat)) (by kernel_rfl) (by simp only[Bool.and_eq_true,decide_eq_true_eq,icLe])
  (fun a3=>Sat.pNodeENF (v.Tag.all isLetter&&decide ((↑v.Tag.length:Int)≤(6:Int))) (v.Tag.all isLetter=Bool.true∧v.Tag.length≤(6:Nat)) (by kernel_rfl) (by simp only[Bool.and_eq_true,decide_eq_true_eq,icLe]) a3
  (Sat.pNodeENF (v.Tag.all isLetter&&decide ((↑v.Tag.length:Int)≤(6:Int))) (v.Tag.all isLetter=Bool.true∧v.Tag.length≤(6:Nat)) (by kernel_rfl) (by simp only[Bool.and_eq_true,decide_eq_true_eq,icLe]) a3
  (Sat.pNodeENF (v.Tag.all isLetter&&decide ((↑v.Tag.length:Int)≤(6:Int))) (v.Tag.all isLetter=Bool.true∧v.Tag.length≤(6:Nat)) (by kernel_rfl) (by simp only[Bool.and_eq_true,decide_eq_true_eq,icLe]) a3
  (Sat.pNodeENF (v.Tag.all isLetter&&decide ((↑v.Tag.length:Int)≤(6:Int))) (v.Tag.all isLetter=Bool.true∧v.Tag.length≤(6:Nat)) (by kernel_rfl) (by simp only[Bool.and_eq_true,decide_eq_true_eq,icLe]) a3
  (.T (.T (.T (.T (.T (.T (.q (Res.mk (.bool false) [] []) (by(clear again_l;grind [Version.may])))))))))))))
  (fun a3=>Sat.pNodeENT (v.Tag.all isLetter&&decide ((↑v.Tag.length:Int)≤(6:Int))) (v.Tag.all isLetter=Bool.true∧v.Tag.length≤(6:Nat)) (by kernel_rfl) (by simp only[Bool.and_eq_true,decide_eq_true_eq,icLe]) a3
  (Sat.pNodeENT (v.Tag.all isLetter&&decide ((↑v.Tag.length:Int)≤(6:Int))) (v.Tag.all isLetter=Bool.true∧v.Tag.length≤(6:Nat)) (by kernel_rfl) (by simp only[Bool.and_eq_true,decide_eq_true_eq,icLe]) a3
  (Sat.pNodeENT (v.Tag.all isLetter&&decide ((↑v.Tag.length:Int)≤(6:Int))) (v.Tag.all isLetter=Bool.true∧v.Tag.length≤(6:Nat)) (by kernel_rfl) (by simp only[Bool.and_eq_true,decide_eq_true_eq,icLe]) a3
  (Sat.pNodeENT (v.Tag.all isLetter&&decide ((↑v.Tag.length:Int)≤(6:Int))) (v.Tag.all isLetter=Bool.true∧v.Tag.length≤(6:Nat)) (by kernel_rfl) (by simp only[Bool.and_eq_true,decide_eq_true_eq,icLe]) a3
  (.k (12<(↑v.Body.length:Int)) (12<v.Body.length) (by simp only[ciLt]) (fun a1=> .et (12<(↑v.Body.length:Int)) (by simp only[ciLt]) a1
  (.et (12<(↑v.Body.length:Int)) (by simp only[ciLt]) a1 (.et (12<(↑v.Body.length:Int)) (by simp only[ciLt]) a1 (.et (12<(↑v.Body.length:Int)) (by simp only[ciLt]) a1 (.T (.q (Res.mk
  (.bool false) [] []) (by(clear again_l;(simp[Version.may];omega))))))))) (fun a1=> .eF (12<(↑v.Body.length:Int)) (by simp only[ciLt]) a1
  (.eF (12<(↑v.Body.length:Int)) (by simp only[ciLt]) a1 (.n v.Dead (fun a2=> .t a2 (.t a2 (.eF (12<(↑v.Body.length:Int)) (by simp only[ciLt]) a1 (.t a2
  (.eF (12<(↑v.Body.length:Int)) (by simp only[ciLt]) a1 (.j (v.Body= []) (fun a0=> .q (Res.mk (.bool false) [] []) (by(clear again_l;(simp_all[Version.may];done))))
  (fun a0=>Sat.pJoinE (L:=loopD X.cfg (96:FuncId) Proofs.Tryz.f96 0 4) (St.mk [(1,.ref
  (.head 1 0) 0 0),(3,.int .i64 0)] [(.head 1 0,.box (encVersion v) true)]) (by kernel_rfl) rfl rfl (again_l (by(clear again_l;(simp_all[Version.may];done))) (by omega)))))))))
  (fun a2=> .f a2 (.f a2 (.eF (12<(↑v.Body.length:Int)) (by simp only[ciLt]) a1 (.f a2 (.eF (12<(↑v.Body.length:Int)) (by simp only[ciLt]) a1 (.F
  (Sat.pJoinE (L:=loopD X.cfg (96:FuncId) Proofs.Tryz.f96 0 4) (St.mk [(1,.ref
  (.head 1 0) 0 0),(3,.int .i64 0)] [(.head 1 0,.box (encVersion v) true)]) (by kernel_rfl) rfl rfl (again_l (by(clear again_l;(simp_all[Version.may];done))) (by omega)))))))))))))))))))))))))))))))))))))))
end Go.Ab.Tryz
