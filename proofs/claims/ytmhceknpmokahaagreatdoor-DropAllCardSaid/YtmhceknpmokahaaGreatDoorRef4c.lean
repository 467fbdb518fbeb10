/- Package cardamomref4: filters out of words, as plain Lean. -/
import Derived.Test.YtmhceknpmokahaaGreatDoorRef1f
import Derived.Test.YtmhceknpmokahaaGreatDoorG3
namespace Go.Ab.Tryz
open Go
set_option maxRecDepth 100000
set_option maxHeartbeats 4000000
theorem c178 (c:UInt8):X.call 178 [.int .u8 c.toNat] [] ⟨.bool (decide (97≤c.toNat∧c.toNat≤122)),[],[]⟩:=by
 refine spec_of ok Go.Proofs.Tryz.func178 ok178 ?_
 refine(have _u2:c.toNat<(256:Nat):=UInt8.toNat_lt _; .k (97≤(↑c.toNat:Int)) (97≤c.toNat) (by simp only[ciLe]) (fun _h3=> .et (97≤(↑c.toNat:Int)) (by simp only[ciLe]) _h3
  (.et (97≤(↑c.toNat:Int)) (by simp only[ciLe]) _h3 (.q (Res.mk (.bool (decide ((↑c.toNat:Int)≤122))) [] []) (by(simp_all;omega)))))
  (fun _h3=> .eF (97≤(↑c.toNat:Int)) (by simp only[ciLe]) _h3 (.eF (97≤(↑c.toNat:Int)) (by simp only[ciLe]) _h3 (.q (Res.mk (.bool false) [] []) (by grind)))))
theorem c179 (c:UInt8):X.call 179 [.int .u8 c.toNat] [] ⟨.bool (decide (48≤c.toNat∧c.toNat≤57)),[],[]⟩:=by
 refine spec_of ok Go.Proofs.Tryz.func179 ok179 ?_
 refine(have _u2:c.toNat<(256:Nat):=UInt8.toNat_lt _; .k (48≤(↑c.toNat:Int)) (48≤c.toNat) (by simp only[ciLe]) (fun _h3=> .et (48≤(↑c.toNat:Int)) (by simp only[ciLe]) _h3
  (.et (48≤(↑c.toNat:Int)) (by simp only[ciLe]) _h3 (.q (Res.mk (.bool (decide ((↑c.toNat:Int)≤57))) [] []) (by(simp_all;omega)))))
  (fun _h3=> .eF (48≤(↑c.toNat:Int)) (by simp only[ciLe]) _h3 (.eF (48≤(↑c.toNat:Int)) (by simp only[ciLe]) _h3 (.q (Res.mk (.bool false) [] []) (by grind)))))
theorem c81 (s f:List UInt8) (hs:s.length≤100000) (hf:f.length≤100000):X.call 81 [.str s,.str f] [] ⟨.bool (begins s f),[],[]⟩:=by
 refine spec_of ok Go.Proofs.Tryz.func81 ok81 ?_
 refine(.k ((↑f.length:Int)≤(↑s.length:Int)) (f.length≤s.length) (by simp only[Int.ofNat_le]) (fun _h5=> .et ((↑f.length:Int)≤(↑s.length:Int)) (by simp only[Int.ofNat_le]) _h5
  (.et ((↑f.length:Int)≤(↑s.length:Int)) (by simp only[Int.ofNat_le]) _h5 (.et ((↑f.length:Int)≤(↑s.length:Int)) (by simp only[Int.ofNat_le]) _h5
  (.k (0≤(↑f.length:Int)∧(↑f.length:Int)≤(↑s.length:Int)) (0≤f.length∧f.length≤s.length) (by simp only[Int.ofNat_le,ciLe])
  (fun _h6=> .et ((↑f.length:Int)≤(↑s.length:Int)) (by simp only[Int.ofNat_le]) _h5 (.et ((↑f.length:Int)≤(↑s.length:Int)) (by simp only[Int.ofNat_le]) _h5
  (.et ((↑f.length:Int)≤(↑s.length:Int)) (by simp only[Int.ofNat_le]) _h5 (.q (Res.mk (.bool (decide (List.take (↑f.length:Int).toNat s=f))) [] []) (by grind [begins])))))
  (fun _h6=>False.elim (by omega)))))) (fun _h5=> .eF ((↑f.length:Int)≤(↑s.length:Int)) (by simp only[Int.ofNat_le]) _h5
  (.eF ((↑f.length:Int)≤(↑s.length:Int)) (by simp only[Int.ofNat_le]) _h5 (.eF ((↑f.length:Int)≤(↑s.length:Int)) (by simp only[Int.ofNat_le]) _h5
  (.eF ((↑f.length:Int)≤(↑s.length:Int)) (by simp only[Int.ofNat_le]) _h5 (.eF ((↑f.length:Int)≤(↑s.length:Int)) (by simp only[Int.ofNat_le]) _h5
  (.eF ((↑f.length:Int)≤(↑s.length:Int)) (by simp only[Int.ofNat_le]) _h5 (.q (Res.mk (.bool false) [] []) (by grind [begins])))))))))
theorem c122 (s:List UInt8) (h0:0<s.length) (hs:s.length≤1000):∃p:Word×Nat,X.call 122 [.str s] [] ⟨.tuple [encWord p.1,.int .i64 p.2],[],[]⟩∧p.2≤s.length∧p.1.S.length≤1000:=by
 refine spec_ex ok Go.Proofs.Tryz.func122 ok122 ?_
 refine(.T (.bm s 0 ‹_› (fun _x4 a6=>have _u6:_x4.toNat<(256:Nat):=UInt8.toNat_lt _; .c (@Tryz.c178 (_x4)) (.i (97≤_x4.toNat∧_x4.toNat≤122) (fun _h7=> ?_) (fun _h7=> .T (.bh a6
  (.c (@Tryz.c179 (_x4)) (.i (48≤_x4.toNat∧_x4.toNat≤57) (fun _h8=> ?_) (fun _h8=> ?_)))))))))
 ·refine SatE.pLoop 3 (St.mk [(0,.str s),(2,.ref (.head 2 0) 0 0),(4,.int .i64 0)] [(.head 2 0,.box
   (.agg [.int .i64 0,.str [],.int .i64 0,.int .i64 0]) true)]) (by kernel_rfl) (fun(n:Nat)=>⟨[(0,.str s),(2,.ref (.head 2 0) 0 0),(4,.int .i64 n)],[(.head 2 0,.box
   (.agg [.int .i64 0,.str [],.int .i64 0,.int .i64 0]) true)]⟩) (fun n=>n≤s.length) (fun n=>s.length-n) 0 rfl ?_ ?_
  ·omega
  ·intro n hn again
   refine(.k ((↑n:Int)<(↑s.length:Int)) (n<s.length) (by simp only[Int.ofNat_lt]) (fun a1=> .et ((↑n:Int)<(↑s.length:Int)) (by simp only[Int.ofNat_lt]) a1
    (.et ((↑n:Int)<(↑s.length:Int)) (by simp only[Int.ofNat_lt]) a1 (.T (.bm s n ‹_› (fun a3 ao=> .et ((↑n:Int)<(↑s.length:Int)) (by simp only[Int.ofNat_lt]) a1
    (have ap:a3.toNat<(256:Nat):=UInt8.toNat_lt _; .c (@Tryz.c178 (a3)) (.et ((↑n:Int)<(↑s.length:Int)) (by simp only[Int.ofNat_lt]) a1 (.i (97≤a3.toNat∧a3.toNat≤122)
    (fun a7=>have a8:=wI64' ((↑n:Int)+(1:Int)); .A (St.mk [(0,.str s),(2,.ref (.head 2 0) 0 0),(4,.int .i64 (IntKind.i64.wrap ((↑n:Int)+1)))] [(.head 2 0,.box
    (.agg [.int .i64 0,.str [],.int .i64 0,.int .i64 0]) true)]) (by simp[a8]) (again (n+(1:Nat)) (by omega) (by omega))) (fun a7=> .k (6<(↑n:Int)) (6<n) (by simp only[ciLt])
    (fun a4=> .r (Word.mk 0 [] 0 0,0) ⟨(by dsimp only;omega),(by dsimp only;(clear again;trivial))⟩)
    (fun a4=> .k (0≤(↑n:Int)∧(↑n:Int)≤(↑s.length:Int)) (0≤n∧n≤s.length) (by simp only[Int.ofNat_le,ciLe])
    (fun a0=> .r (Word.mk 1 (List.take (↑n:Int).toNat s) 0 0,n) ⟨(by show n≤s.length;(clear again;trivial)),(by dsimp only;(clear again;(simp;omega)))⟩)
    (fun a0=>False.elim (by omega)))))))))))) (fun a1=> .eF ((↑n:Int)<(↑s.length:Int)) (by simp only[Int.ofNat_lt]) a1
    (.eF ((↑n:Int)<(↑s.length:Int)) (by simp only[Int.ofNat_lt]) a1 (.eF ((↑n:Int)<(↑s.length:Int)) (by simp only[Int.ofNat_lt]) a1
    (.eF ((↑n:Int)<(↑s.length:Int)) (by simp only[Int.ofNat_lt]) a1 (.F (.k (6<(↑n:Int)) (6<n) (by simp only[ciLt])
    (fun a9=> .r (Word.mk 0 [] 0 0,0) ⟨(by dsimp only;omega),(by dsimp only;(clear again;trivial))⟩)
    (fun a9=> .k (0≤(↑n:Int)∧(↑n:Int)≤(↑s.length:Int)) (0≤n∧n≤s.length) (by simp only[Int.ofNat_le,ciLe])
    (fun aa=> .r (Word.mk 1 (List.take (↑n:Int).toNat s) 0 0,n) ⟨(by show n≤s.length;(clear again;trivial)),(by dsimp only;(clear again;(simp;omega)))⟩)
    (fun aa=>False.elim (by omega))))))))))
 ·refine SatE.pLoop 10 (St.mk [(0,.str s),(2,.ref (.head 2 0) 0 0),(4,.int .i64 0),(5,.int .i64 0)] [(.head 2 0,.box
   (.agg [.int .i64 0,.str [],.int .i64 0,.int .i64 0]) true)]) (by kernel_rfl) (fun(p:Nat×Int)=>⟨[(0,.str s),(2,.ref
   (.head 2 0) 0 0),(4,.int .i64 p.1),(5,.int .i64 p.2)],[(.head 2 0,.box
   (.agg [.int .i64 0,.str [],.int .i64 0,.int .i64 0]) true)]⟩) (fun p=>p.1≤s.length∧0≤p.2∧p.2≤10000000∧(p.1=0→p.2=0)∧(p.1=1→p.2≤9)) (fun p=>s.length-p.1) (0,0) rfl ?_ ?_
  ·exact⟨by omega,by omega,by omega,by omega,by omega⟩
  ·rintro⟨n,v⟩ hI again
   obtain⟨hn,hv0,hv,hv1,hv2⟩:=hI
   simp only at hn hv0 hv hv1 hv2
   refine(.k ((↑n:Int)<(↑s.length:Int)) (n<s.length) (by simp only[Int.ofNat_lt]) (fun a0=> .et ((↑n:Int)<(↑s.length:Int)) (by simp only[Int.ofNat_lt]) a0
    (.et ((↑n:Int)<(↑s.length:Int)) (by simp only[Int.ofNat_lt]) a0 (.T (.bm s n ‹_› (fun a2 ab=> .et ((↑n:Int)<(↑s.length:Int)) (by simp only[Int.ofNat_lt]) a0
    (have aq:a2.toNat<(256:Nat):=UInt8.toNat_lt _; .c (@Tryz.c179 (a2)) (.et ((↑n:Int)<(↑s.length:Int)) (by simp only[Int.ofNat_lt]) a0 (.i (48≤a2.toNat∧a2.toNat≤57)
    (fun ac=> .k ((↑n:Int)<2) (n<2) (by simp only[icLt]) (fun ad=> .T (.bh ab
    (have ae:=wI64' ((↑n:Int)+(1:Int));have af:=wI64' (v*(10:Int));have ag:=wU8' ((↑a2.toNat:Int)-(48:Int));have ah:=wI64' ((↑a2.toNat:Int)-(48:Int));have ai:=wI64' (v*(10:Int)+((↑a2.toNat:Int)-(48:Int))); .A (St.mk [(0,.str s),(2,.ref
    (.head 2 0) 0 0),(4,.int .i64 (IntKind.i64.wrap ((↑n:Int)+1))),(5,.int .i64 (IntKind.i64.wrap (IntKind.i64.wrap (v*10)+IntKind.i64.wrap (IntKind.u8.wrap ((↑a2.toNat:Int)-48)))))] [(.head 2 0,.box
    (.agg [.int .i64 0,.str [],.int .i64 0,.int .i64 0]) true)]) (by simp[ai,ah,ag,af,ae]) (again ((n+(1:Nat),v*(10:Int)+((↑a2.toNat:Int)-(48:Int)))) ⟨(by dsimp only;omega),⟨(by dsimp only;omega),⟨(by dsimp only;omega),⟨(by dsimp only;omega),(by dsimp only;omega)⟩⟩⟩⟩ (by dsimp only;omega)))))
    (fun ad=>have aj:=wI64' ((↑n:Int)+(1:Int)); .A (St.mk [(0,.str s),(2,.ref (.head 2 0) 0 0),(4,.int .i64 (IntKind.i64.wrap ((↑n:Int)+1))),(5,.int .i64 v)] [(.head 2 0,.box
    (.agg [.int .i64 0,.str [],.int .i64 0,.int .i64 0]) true)]) (by simp[aj]) (again ((n+(1:Nat),v)) ⟨(by dsimp only;omega),⟨(by show(0:Int)≤v;omega),⟨(by dsimp only;omega),⟨(by dsimp only;omega),(by dsimp only;omega)⟩⟩⟩⟩ (by dsimp only;omega))))
    (fun ac=> .k (2<(↑n:Int)) (2<n) (by simp only[ciLt]) (fun ak=> .r (Word.mk 0 [] 0 0,0) ⟨(by dsimp only;omega),(by dsimp only;(clear again;trivial))⟩)
    (fun ak=> .r (Word.mk 2 [] v 0,n) ⟨(by show n≤s.length;(clear again;trivial)),(by dsimp only;(clear again;trivial))⟩))))))))))
    (fun a0=> .eF ((↑n:Int)<(↑s.length:Int)) (by simp only[Int.ofNat_lt]) a0 (.eF ((↑n:Int)<(↑s.length:Int)) (by simp only[Int.ofNat_lt]) a0
    (.eF ((↑n:Int)<(↑s.length:Int)) (by simp only[Int.ofNat_lt]) a0 (.eF ((↑n:Int)<(↑s.length:Int)) (by simp only[Int.ofNat_lt]) a0 (.F (.k (2<(↑n:Int)) (2<n) (by simp only[ciLt])
    (fun al=> .r (Word.mk 0 [] 0 0,0) ⟨(by dsimp only;omega),(by dsimp only;(clear again;trivial))⟩)
    (fun al=> .r (Word.mk 2 [] v 0,n) ⟨(by show n≤s.length;(clear again;trivial)),(by dsimp only;(clear again;trivial))⟩))))))))
 ·refine SatE.pLoop 19 (St.mk [(0,.str s),(2,.ref
   (.head 2 0) 0 0),(6,.str [(40:UInt8),(41:UInt8),(33:UInt8),(38:UInt8),(124:UInt8),(42:UInt8),(61:UInt8),(58:UInt8),(45:UInt8),(64:UInt8),(94:UInt8)]),(7,.int .i64 0)] [(.head 2 0,.box
   (.agg [.int .i64 0,.str [],.int .i64 0,.int .i64 0]) true)]) (by kernel_rfl) (fun(k:Nat)=>⟨[(0,.str s),(2,.ref
   (.head 2 0) 0 0),(6,.str [40,41,33,38,124,42,61,58,45,64,94]),(7,.int .i64 k)],[(.head 2 0,.box
   (.agg [.int .i64 0,.str [],.int .i64 0,.int .i64 0]) true)]⟩) (fun k=>k≤11) (fun k=>11-k) 0 rfl ?_ ?_
  ·omega
  ·intro k hk again
   refine(.k ((↑k:Int)<11) (k<11) (by simp only[icLt]) (fun am=> .T
    (.bm ([(40:UInt8),(41:UInt8),(33:UInt8),(38:UInt8),(124:UInt8),(42:UInt8),(61:UInt8),(58:UInt8),(45:UInt8),(64:UInt8),(94:UInt8)]) k ‹_› (fun a5 ar=> .T (.bh a6
    (have au:a5.toNat<(256:Nat):=UInt8.toNat_lt _;have av:_x4.toNat<(256:Nat):=UInt8.toNat_lt _; .k ((↑a5.toNat:Int)=(↑_x4.toNat:Int)) (a5=_x4) (by simp only[Int.natCast_inj,UInt8.toNat_inj])
    (fun a4=> .k ((0:Int)≤1∧1≤(↑s.length:Int)) ((0:Int)≤1∧1≤s.length) (by simp only[ciLe])
    (fun a0=> .r (Word.mk 3 (List.take 1 s) 0 0,1) ⟨(by dsimp only;(clear again;trivial)),(by dsimp only;(clear again;(simp;omega)))⟩) (fun a0=>False.elim (by omega)))
    (fun a4=>have an:=wI64' ((↑k:Int)+(1:Int)); .A (St.mk [(0,.str s),(2,.ref
    (.head 2 0) 0 0),(6,.str [(40:UInt8),(41:UInt8),(33:UInt8),(38:UInt8),(124:UInt8),(42:UInt8),(61:UInt8),(58:UInt8),(45:UInt8),(64:UInt8),(94:UInt8)]),(7,.int .i64 (IntKind.i64.wrap ((↑k:Int)+1)))] [(.head 2 0,.box
    (.agg [.int .i64 0,.str [],.int .i64 0,.int .i64 0]) true)]) (by simp[an]) (again (k+(1:Nat)) (by omega) (by omega))))))))
    (fun am=> .r (Word.mk 0 [] 0 0,0) ⟨(by dsimp only;omega),(by dsimp only;(clear again;trivial))⟩))
theorem c76 (s:List UInt8) (hs:s.length≤100000):∃p:List Word×Int×Bool,X.call 76 [.str s] [] ⟨.tuple [.tree (p.1.map encWord),.int .i64 p.2.1,.bool p.2.2],[],[]⟩∧p.1.length≤60∧(∀w∈p.1,w.S.length≤1000)∧(p.2.2=true→s.length≤80):=by
 refine spec_ex ok Go.Proofs.Tryz.func76 ok76 ?_
 refine(.k (80<(↑s.length:Int)) (80<s.length) (by simp only[ciLt]) (fun _h3=> .r ([],0,false) ⟨(by dsimp only;trivial),⟨(by dsimp only;trivial),(by dsimp only;simp)⟩⟩) (fun _h3=> ?_))
 refine SatE.pLoop 5 (St.mk [(0,.str s),(5,.sref (.head 5 0) 0 0),(6,.int .i64 0)] [(.head 5 0,.row 4 [] true true)]) (by kernel_rfl) (fun(p:Nat×List Word)=>⟨[(0,.str s),(5,.sref
  (.head 5 0) 0 p.2.length),(6,.int .i64 p.1)],[(.head 5 0,.row 4 (p.2.map encWord) true true)]⟩) (fun p=>p.1≤s.length∧p.2.length≤60∧(∀w∈p.2,w.S.length≤1000)) (fun p=>s.length-p.1) (0,[]) rfl ?_ ?_
 ·exact⟨by simp,by simp,by simp⟩
 ·rintro⟨k,out⟩ hI again
  obtain⟨hk,ho,hw⟩:=hI
  simp only at hk ho hw
  refine(.k ((↑k:Int)<(↑s.length:Int)) (k<s.length) (by simp only[Int.ofNat_lt]) (fun a5=> .T (.bm s k ‹_›
   (fun a2 ae=>have af:a2.toNat<(256:Nat):=UInt8.toNat_lt _; .k ((↑a2.toNat:Int)=32) (a2.toNat=32) (by simp only[icEq])
   (fun a6=>have a7:=wI64' ((↑k:Int)+(1:Int)); .A (St.mk [(0,.str s),(5,.sref
   (.head 5 0) 0 out.length),(6,.int .i64 (IntKind.i64.wrap ((↑k:Int)+1)))] [(.head 5 0,.row 4 (List.map encWord out) true true)]) (by simp[a7]) (again ((k+(1:Nat),out)) ⟨(by dsimp only;omega),⟨(by dsimp only;omega),(by dsimp only;omega)⟩⟩ (by dsimp only;omega)))
   (fun a6=> .k (0≤(↑k:Int)∧(↑k:Int)≤(↑s.length:Int)) (0≤k∧k≤s.length) (by simp only[Int.ofNat_le,ciLe])
   (fun a8=>Exists.elim (@Tryz.c122 (List.drop (↑k:Int).toNat s) (by(clear again;(simp;omega))) (by(clear again;(simp;omega))))
   (fun a0 a3=>have a9:=a3.2.1;have ag:a0.snd≤s.length-k:=Iff.mp (by simp only[List.length_drop,Int.toNat_natCast]) a9;have ah:=a3.2.2; .c a3.1
   (.k ((↑a0.snd:Int)=0) (a0.snd=0) (by simp only[icEq]) (fun a1=> .et ((↑a0.snd:Int)=0) (by simp only[icEq]) a1 (.et ((↑a0.snd:Int)=0) (by simp only[icEq]) a1
   (.et ((↑a0.snd:Int)=0) (by simp only[icEq]) a1 (.T (.r ([],(↑k:Int),false) ⟨(by dsimp only;(clear again;trivial)),⟨(by dsimp only;(clear again;trivial)),(by dsimp only;omega)⟩⟩)))))
   (fun a1=> .eF ((↑a0.snd:Int)=0) (by simp only[icEq]) a1 (.eF ((↑a0.snd:Int)=0) (by simp only[icEq]) a1 (.eF ((↑a0.snd:Int)=0) (by simp only[icEq]) a1
   (.k (60≤(↑out.length:Int)) (60≤out.length) (by simp only[ciLe])
   (fun aa=> .r ([],(↑k:Int),false) ⟨(by dsimp only;(clear again;trivial)),⟨(by dsimp only;(clear again;trivial)),(by dsimp only;omega)⟩⟩)
   (fun aa=> .i ((out.length+1)*(40:Nat)≤140737488355328) (fun ab=> .k (out.length=(List.map encWord out).length) (True) (by simp only[List.length_map])
   (fun a4=>have ac:=wI64' ((↑k:Int)+(↑a0.snd:Int)); .A (St.mk [(0,.str s),(5,.sref
   (.head 5 0) 0 (out.length+1)),(6,.int .i64 (IntKind.i64.wrap ((↑k:Int)+(↑a0.snd:Int))))] [(.head 5 0,.row 4 (List.map encWord out++[.agg [.int .i64 a0.fst.Kind,.str a0.fst.S,.int .i64 a0.fst.N,.int .i64 (↑k:Int)]]) true true)]) (by simp[encWord,ac]) (again ((k+a0.snd,out++[Word.mk a0.fst.Kind a0.fst.S a0.fst.N (↑k:Int)])) ⟨(by dsimp only;omega),⟨(by dsimp only;(clear again;(simp;omega))),(by dsimp only;(clear again;(intro w hw2;rcases List.mem_append.1 hw2 with h|h;exact hw w h;simp only[List.mem_singleton]at h;subst h;dsimp only;omega)))⟩⟩ (by dsimp only;omega)))
   (fun a4=>(a4 trivial).elim)) (fun ab=>False.elim (by omega)))))))))) (fun a8=>False.elim (by omega))))))
   (fun a5=>have ad:List.take out.length (List.map encWord out)=List.map encWord out:=List.take_of_length_le (by simp); .q (Res.mk (AV.tuple [.tree (List.take out.length (List.map encWord out)),.int .i64 0,.bool true]) [] []) ⟨(out,(0:Int),Bool.true),(by simp only[ad]),⟨(by dsimp only;(clear again;trivial)),⟨(by dsimp only;(clear again;trivial)),(by dsimp only;omega)⟩⟩⟩))
theorem deep_loop (args:List Flt) (o k l h:Int) (t:List UInt8) (hl:args.length≤10) (hd1:∀a∈args,a.deep≤100000) (hd:∀a,a∈args→X.call 79 [encFlt a] [] ⟨.int .i64 a.deep,[],[]⟩):
  X.call 79 [.agg [.int .i64 o,.int .i64 k,.int .i64 l,.int .i64 h,.str t,.tree (args.map encFlt)]] [] ⟨.int .i64 (1+(args.map Flt.deep).foldl max 0:Nat),[],[]⟩:=by
 refine spec_of ok Go.Proofs.Tryz.func79 ok79 ?_
 refine ?_
 refine Sat.pLoop 3 (St.mk [(1,.ref (.head 1 0) 0 0),(3,.int .i64 0),(4,.int .i64 0)] [(.head 1 0,.box
  (.agg [.int .i64 o,.int .i64 k,.int .i64 l,.int .i64 h,.str t,.tree (List.map encFlt args)]) true)]) (by kernel_rfl) (fun(p:Nat)=>⟨[(1,.ref
  (.head 1 0) 0 0),(3,.int .i64 (((args.take p).map Flt.deep).foldl max 0:Nat)),(4,.int .i64 p)],[(.head 1 0,.box
  (.agg [.int .i64 o,.int .i64 k,.int .i64 l,.int .i64 h,.str t,.tree (args.map encFlt)]) true)]⟩) (fun p=>p≤args.length∧((args.take p).map Flt.deep).foldl max 0≤100000) (fun p=>args.length-p) 0 rfl ?_ ?_
 ·exact⟨by simp,by simp⟩
 ·intro p hI again
  have hp:=hI.1
  have hq:=hI.2
  refine(.kl encFlt args p (fun a3=> .T (.em encFlt args p ‹_›
   (fun a0 a2=>have a4:=(hd1 a0 (List.mem_of_getElem? a2));have a1:=(hd a0 (List.mem_of_getElem? a2)); .c (@hd (a0) (by(clear hd again a1;(exact List.mem_of_getElem? ‹_›))))
   (have a5:=wI64' ((↑p:Int)+(1:Int)); .A (St.mk [(1,.ref
   (.head 1 0) 0 0),(3,.int .i64 (if(↑a0.deep:Int)>(↑(List.foldl Max.max 0 (List.map Flt.deep (List.take p args))):Int)then(↑a0.deep:Int)else(↑(List.foldl Max.max 0 (List.map Flt.deep (List.take p args))):Int))),(4,.int .i64 (IntKind.i64.wrap ((↑p:Int)+1)))] [(.head 1 0,.box
   (.agg [.int .i64 o,.int .i64 k,.int .i64 l,.int .i64 h,.str t,.tree (List.map encFlt args)]) true)]) (by(clear hd again a1;(rw[take_succ ‹_›];simp;split<;>omega))) (again (p+(1:Nat)) (by(clear hd again a1;(refine⟨by omega, ?_⟩;rw[take_succ ‹_›];have:=hd1 _ (List.mem_of_getElem? ‹_›);simp only[List.map_append,List.map_cons,List.map_nil,List.foldl_append,List.foldl_cons,List.foldl_nil];omega))) (by omega))))))
   (fun a3=>have a6:=wI64' ((1:Int)+(↑(List.foldl Max.max (0:Nat) (List.map Flt.deep (List.take p args))):Int)); .q (Res.mk
   (.int .i64 (IntKind.i64.wrap (1+(↑(List.foldl Max.max 0 (List.map Flt.deep (List.take p args))):Int)))) [] []) (by(clear hd again;(simp only[List.take_of_length_le (show args.length≤p by omega)]at*;simp[*];done)))))
theorem c79:∀(f:Flt),f.deep≤100000→X.call 79 [encFlt f] [] ⟨.int .i64 f.deep,[],[]⟩
 | .leaf o k l h t,hd=>by
  rw[Flt.deep_eq,encFlt_eq]
  exact deep_loop [] o k l h t (by simp) (by simp) (by simp)
 | .one a,hd=>by
  simp only[Flt.deep]at hd
  have ih:=c79 a (by omega)
  rw[Flt.deep_eq,encFlt_eq]
  refine deep_loop [a] 7 0 0 0 [] (by simp) (by simp;omega) (fun b hb=> ?_)
  simp only[List.mem_singleton]at hb
  subst hb
  exact ih
 | .two o a b,hd=>by
  simp only[Flt.deep]at hd
  have ih:=c79 a (by omega)
  have ih2:=c79 b (by omega)
  rw[Flt.deep_eq,encFlt_eq]
  refine deep_loop [a,b] o 0 0 0 [] (by simp) (by simp;omega) (fun c hb=> ?_)
  simp only[List.mem_cons,List.not_mem_nil,or_false]at hb
  rcases hb with rfl|rfl
  ·exact ih
  ·exact ih2
theorem c32 (v:Version) (hv:v.Attrs.length≤100000) (ht:v.Tag.length≤100000):∀(f:Flt),f.ok→f.short→X.call 32 [encFlt f,encVersion v] [] ⟨.bool (f.lets v),[],[]⟩
 | .leaf o k l h t,hk,hs=>by
  rw[encFlt_leaf]
  simp only[Flt.ok,Flt.short]at hk hs
  refine spec_of ok Go.Proofs.Tryz.func32 ok32 ?_
  refine(.i (o=1) (fun a8=> .q (Res.mk (.bool true) [] []) (by(simp_all[Flt.lets];done))) (fun a8=> .i (o=2) (fun a5=> .it a5 (.c (@Tryz.c80 (v) (k) ‹_›)
   (.n ((attrOf v.Attrs k).isSome) (fun a2=> .t a2 (.t a2 (.t a2 (.t a2 (.i (l≤(attrOf v.Attrs k).getD 0) (fun a3=> .it a3 (.it a3 (.it a3 (.it a3 (.q (Res.mk
   (.bool (decide ((attrOf v.Attrs k).getD 0≤h))) [] []) (by grind [Flt.lets])))))) (fun a3=> .iF a3 (.iF a3 (.iF a3 (.iF a3 (.q (Res.mk (.bool false) [] []) (by grind [Flt.lets])))))))))))
   (fun a2=> .f a2 (.f a2 (.f a2 (.f a2 (.F (.F (.F (.F (.F (.q (Res.mk (.bool false) [] []) (by(simp_all[Flt.lets];done))))))))))))))) (fun a5=> .i (o=3)
   (fun a6=> .c (@Tryz.c80 (v) (k) ‹_›) (.n ((attrOf v.Attrs k).isSome) (fun a4=> .t a4 (.t a4 (.t a4 (.t a4 (.i (l≤(attrOf v.Attrs k).getD 0) (fun a0=> .it a0 (.it a0 (.it a0
   (.it a0 (.q (Res.mk (.bool (decide ((attrOf v.Attrs k).getD 0≤h))) [] []) (by grind [Flt.lets])))))) (fun a0=> .iF a0 (.iF a0 (.iF a0 (.iF a0 (.q (Res.mk
   (.bool false) [] []) (by grind [Flt.lets]))))))))))) (fun a4=> .f a4 (.f a4 (.f a4 (.f a4 (.F (.F (.F (.F (.F (.q (Res.mk (.bool false) [] []) (by(simp_all[Flt.lets];done))))))))))))))
   (fun a6=> .i (o=4) (fun a7=> .c (@Tryz.c81 (v.Tag) (t) ‹_› ‹_›) (.q (Res.mk (.bool (begins v.Tag t)) [] []) (by(simp_all[Flt.lets];done)))) (fun a7=> .i (o=5)
   (fun a1=>False.elim (by omega)) (fun a1=> .i (o=6) (fun a9=>False.elim (by omega)) (fun a9=> .i (o=7) (fun aa=>False.elim (by omega)) (fun aa=> .q (Res.mk
   (.bool false) [] []) (by(simp_all[Flt.lets];done))))))))))
 | .one a,hk,hs=>by
  rw[encFlt_one]
  have ih:=c32 v hv ht a hk hs
  refine spec_of ok Go.Proofs.Tryz.func32 ok32 ?_
  refine(.F (.F (.F (.F (.F (.F (.T (.T (Sat.pElem ([encFlt a]) ((0:Nat)) (encFlt a) (by kernel_rfl) rfl (.c (@ih) .r))))))))))
 | .two o a b,hk,hs=>by
  rw[encFlt_two]
  have ih:=c32 v hv ht a hk.2.1 hs.1
  have ih2:=c32 v hv ht b hk.2.2 hs.2
  have ho:=hk.1
  refine spec_of ok Go.Proofs.Tryz.func32 ok32 ?_
  refine(.i (o=1) (fun a5=>False.elim (by omega)) (fun a5=> .i (o=2) (fun a2=>False.elim (by omega)) (fun a2=> .i (o=3) (fun a3=>False.elim (by omega)) (fun a3=> .i (o=4)
   (fun a6=>False.elim (by omega)) (fun a6=> .i (o=5) (fun a4=> .T (Sat.pElem ([encFlt a,encFlt b]) ((0:Nat)) (encFlt a) (by kernel_rfl) rfl (.c (@ih) (.n (Flt.lets v a)
   (fun a0=> .t a0 (.t a0 (.T (Sat.pElem ([encFlt a,encFlt b]) ((1:Nat)) (encFlt b) (by kernel_rfl) rfl (.t a0 (.t a0 (.t a0 (.c (@ih2) (.t a0 (.q (Res.mk
   (.bool (Flt.lets v b)) [] []) (by(clear ih ih2;(simp_all[Flt.lets];done))))))))))))) (fun a0=> .f a0 (.f a0 (.f a0 (.f a0 (.f a0 (.f a0 (.q (Res.mk
   (.bool false) [] []) (by(clear ih ih2;(simp_all[Flt.lets];done)))))))))))))) (fun a4=> .i (o=6) (fun a7=> .T (Sat.pElem ([encFlt a,encFlt b]) ((0:Nat)) (encFlt a) (by kernel_rfl) rfl
   (.c (@ih) (.n (Flt.lets v a) (fun a1=> .t a1 (.t a1 (.t a1 (.t a1 (.t a1 (.t a1 (.q (Res.mk (.bool true) [] []) (by(clear ih ih2;(simp_all[Flt.lets];done))))))))))
   (fun a1=> .f a1 (.f a1 (.T (Sat.pElem ([encFlt a,encFlt b]) ((1:Nat)) (encFlt b) (by kernel_rfl) rfl (.f a1 (.f a1 (.f a1 (.c (@ih2) (.f a1 (.q (Res.mk
   (.bool (Flt.lets v b)) [] []) (by(clear ih ih2;(simp_all[Flt.lets];done))))))))))))))))) (fun a7=>False.elim (by omega))))))))
end Go.Ab.Tryz
namespace Go.Ab.Tryz
open Go
set_option maxRecDepth 100000
set_option maxHeartbeats 4000000
theorem c124 (l:List Word) (hl:l.length≤60) (t:Nat) (ht:t≤l.length) (e:Int) (bad:Bool) (pos:Int) (s:List UInt8):∃p:Bool×Nat,X.call 124 [.ref (.inc 0) 0 0,.str s] [.box (encRd ⟨l,t,e,bad,pos⟩) true] ⟨.bool p.1,[.box (encRd ⟨l,p.2,e,bad,pos⟩) true],[]⟩∧t≤p.2∧p.2≤l.length∧(p.1=true→t<p.2):=by
 refine spec_ex ok Go.Proofs.Tryz.func124 ok124 ?_
 refine(.n bad (fun _h9=> .t _h9 (.t _h9 (.t _h9 (.t _h9 (.t _h9 (.t _h9 (.t _h9 (.t _h9 (.t _h9 (.t _h9 (.T (.T (.T (.T (.T (.T (.T (.T (.T (.T (.T (.T (.T (.T (.T (.T (.T (.T (.T (.T (.T (.T (.T (.T
  (.T (.T (.T (.T (.r (false,t) ⟨(by show t≤t;omega),⟨(by show t≤l.length;trivial),(by dsimp only;simp)⟩⟩))))))))))))))))))))))))))))))))))))))) (fun _h9=> .f _h9 (.f _h9 (.f _h9 (.f _h9
  (.f _h9 (.f _h9 (.f _h9 (.f _h9 (.f _h9 (.f _h9 (.k ((↑(List.map encWord l).length:Int)≤(↑t:Int)) (l.length≤t) (by simp only[List.length_map,Int.ofNat_le])
  (fun a1=> .et ((↑(List.map encWord l).length:Int)≤(↑t:Int)) (by simp only[List.length_map,Int.ofNat_le]) a1
  (.et ((↑(List.map encWord l).length:Int)≤(↑t:Int)) (by simp only[List.length_map,Int.ofNat_le]) a1
  (.et ((↑(List.map encWord l).length:Int)≤(↑t:Int)) (by simp only[List.length_map,Int.ofNat_le]) a1
  (.et ((↑(List.map encWord l).length:Int)≤(↑t:Int)) (by simp only[List.length_map,Int.ofNat_le]) a1
  (.et ((↑(List.map encWord l).length:Int)≤(↑t:Int)) (by simp only[List.length_map,Int.ofNat_le]) a1
  (.et ((↑(List.map encWord l).length:Int)≤(↑t:Int)) (by simp only[List.length_map,Int.ofNat_le]) a1
  (.et ((↑(List.map encWord l).length:Int)≤(↑t:Int)) (by simp only[List.length_map,Int.ofNat_le]) a1
  (.et ((↑(List.map encWord l).length:Int)≤(↑t:Int)) (by simp only[List.length_map,Int.ofNat_le]) a1
  (.et ((↑(List.map encWord l).length:Int)≤(↑t:Int)) (by simp only[List.length_map,Int.ofNat_le]) a1
  (.et ((↑(List.map encWord l).length:Int)≤(↑t:Int)) (by simp only[List.length_map,Int.ofNat_le]) a1
  (.et ((↑(List.map encWord l).length:Int)≤(↑t:Int)) (by simp only[List.length_map,Int.ofNat_le]) a1
  (.et ((↑(List.map encWord l).length:Int)≤(↑t:Int)) (by simp only[List.length_map,Int.ofNat_le]) a1 (.T (.T (.T (.T (.T (.T (.T (.T (.T (.T (.T (.T (.T (.T (.T
  (.r (false,t) ⟨(by show t≤t;omega),⟨(by show t≤l.length;trivial),(by dsimp only;simp)⟩⟩))))))))))))))))))))))))))))
  (fun a1=> .eF ((↑(List.map encWord l).length:Int)≤(↑t:Int)) (by simp only[List.length_map,Int.ofNat_le]) a1
  (.eF ((↑(List.map encWord l).length:Int)≤(↑t:Int)) (by simp only[List.length_map,Int.ofNat_le]) a1
  (.eF ((↑(List.map encWord l).length:Int)≤(↑t:Int)) (by simp only[List.length_map,Int.ofNat_le]) a1
  (.eF ((↑(List.map encWord l).length:Int)≤(↑t:Int)) (by simp only[List.length_map,Int.ofNat_le]) a1
  (.eF ((↑(List.map encWord l).length:Int)≤(↑t:Int)) (by simp only[List.length_map,Int.ofNat_le]) a1
  (.eF ((↑(List.map encWord l).length:Int)≤(↑t:Int)) (by simp only[List.length_map,Int.ofNat_le]) a1
  (.eF ((↑(List.map encWord l).length:Int)≤(↑t:Int)) (by simp only[List.length_map,Int.ofNat_le]) a1
  (.eF ((↑(List.map encWord l).length:Int)≤(↑t:Int)) (by simp only[List.length_map,Int.ofNat_le]) a1 (.T (.em encWord l t (by omega)
  (fun a2 a3=> .eF ((↑(List.map encWord l).length:Int)≤(↑t:Int)) (by simp only[List.length_map,Int.ofNat_le]) a1
  (.eF ((↑(List.map encWord l).length:Int)≤(↑t:Int)) (by simp only[List.length_map,Int.ofNat_le]) a1
  (.eF ((↑(List.map encWord l).length:Int)≤(↑t:Int)) (by simp only[List.length_map,Int.ofNat_le]) a1
  (.eF ((↑(List.map encWord l).length:Int)≤(↑t:Int)) (by simp only[List.length_map,Int.ofNat_le]) a1 (.j (a2.Kind=3) (fun a0=> .iu a0 (.iu a0 (.iu a0 (.iu a0 (.iu a0 (.iu a0
  (.iu a0 (.iu a0 (.iu a0 (.iu a0 (.iu a0 (.iu a0 (.iu a0 (.T (.r (false,t) ⟨(by show t≤t;omega),⟨(by show t≤l.length;trivial),(by dsimp only;simp)⟩⟩)))))))))))))))
  (fun a0=> .iv a0 (.iv a0 (.iv a0 (.iv a0 (.iv a0 (.iv a0 (.iv a0 (.iv a0 (.T (.eh encWord a3 (.iv a0 (.iv a0 (.iv a0 (.iv a0 (.iv a0 (.j (a2.S=s)
  (fun a4=> .r (false,t) ⟨(by show t≤t;omega),⟨(by show t≤l.length;trivial),(by dsimp only;simp)⟩⟩) (fun a4=>have a5:=wI64' ((↑t:Int)+(1:Int)); .q (Res.mk (.bool true) [.box
  (.agg [.tree (List.map encWord l),.int .i64 (IntKind.i64.wrap ((↑t:Int)+1)),.int .i64 e,.bool bad,.int .i64 pos]) true] []) ⟨(Bool.true,t+(1:Nat)),(by simp[encRd,a5]),⟨(by dsimp only;omega),⟨(by dsimp only;omega),(by dsimp only;omega)⟩⟩⟩))))))))))))))))))))))))))))))))))))))))))))
theorem c78 (l:List Word) (hl:l.length≤60) (t:Nat) (e:Int) (bad:Bool) (pos:Int) (i:Int) (hi:0≤i) (hi2:i≤100):∃p:Int,X.call 78 [.ref (.inc 0) 0 0,.int .i64 i] [.box (encRd ⟨l,t,e,bad,pos⟩) true] ⟨.tuple [],[.box (encRd ⟨l,t,e,true,p⟩) true],[]⟩:=by
 refine Exists.imp (fun _ h=>h.1) (q:=fun p=>X.call 78 [.ref (.inc 0) 0 0,.int .i64 i] [.box (encRd ⟨l,t,e,bad,pos⟩) true] ⟨.tuple [],[.box (encRd ⟨l,t,e,true,p⟩) true],[]⟩) (p:=fun p=>X.call 78 [.ref (.inc 0) 0 0,.int .i64 i] [.box (encRd ⟨l,t,e,bad,pos⟩) true] ⟨.tuple [],[.box (encRd ⟨l,t,e,true,p⟩) true],[]⟩∧True) ?_
 cases bad
 ·refine spec_ex ok Go.Proofs.Tryz.func78 ok78 ?_
  refine(.F (.k (i<(↑(List.map encWord l).length:Int)) (i<(↑l.length:Int)) (by simp only[List.length_map]) (fun a0=> .it hi (.em encWord l i.toNat (by omega)
   (fun a1 a2=> .r a1.At (by trivial)))) (fun a0=> .r e (by trivial))))
 ·refine spec_ex ok Go.Proofs.Tryz.func78 ok78 ?_
  refine(.T (.r pos (by trivial)))
theorem c246 (l:List Word) (hl:l.length≤60) (t:Nat) (ht:t≤l.length) (e:Int) (bad:Bool) (pos:Int) (n:Int):∃p:Int×Nat×Bool×Int,X.call 246 [.ref (.inc 0) 0 0,.int .i64 n] [.box (encRd ⟨l,t,e,bad,pos⟩) true] ⟨.int .i64 p.1,[.box (encRd ⟨l,p.2.1,e,p.2.2.1,p.2.2.2⟩) true],[]⟩∧t≤p.2.1∧p.2.1≤l.length∧(p.2.2.1=false→t<p.2.1):=by
 refine spec_ex ok Go.Proofs.Tryz.func246 ok246 ?_
 refine(.n bad (fun _h9=> .r (0,t,bad,pos) ⟨(by show t≤t;omega),⟨(by show t≤l.length;trivial),(by dsimp only;(simp;omega))⟩⟩)
  (fun _h9=> .k ((↑(List.map encWord l).length:Int)≤(↑t:Int)) (l.length≤t) (by simp only[List.length_map,Int.ofNat_le])
  (fun a1=> .et ((↑(List.map encWord l).length:Int)≤(↑t:Int)) (by simp only[List.length_map,Int.ofNat_le]) a1
  (.et ((↑(List.map encWord l).length:Int)≤(↑t:Int)) (by simp only[List.length_map,Int.ofNat_le]) a1
  (.et ((↑(List.map encWord l).length:Int)≤(↑t:Int)) (by simp only[List.length_map,Int.ofNat_le]) a1
  (.et ((↑(List.map encWord l).length:Int)≤(↑t:Int)) (by simp only[List.length_map,Int.ofNat_le]) a1
  (.et ((↑(List.map encWord l).length:Int)≤(↑t:Int)) (by simp only[List.length_map,Int.ofNat_le]) a1
  (.et ((↑(List.map encWord l).length:Int)≤(↑t:Int)) (by simp only[List.length_map,Int.ofNat_le]) a1
  (.et ((↑(List.map encWord l).length:Int)≤(↑t:Int)) (by simp only[List.length_map,Int.ofNat_le]) a1
  (.et ((↑(List.map encWord l).length:Int)≤(↑t:Int)) (by simp only[List.length_map,Int.ofNat_le]) a1
  (.et ((↑(List.map encWord l).length:Int)≤(↑t:Int)) (by simp only[List.length_map,Int.ofNat_le]) a1
  (.et ((↑(List.map encWord l).length:Int)≤(↑t:Int)) (by simp only[List.length_map,Int.ofNat_le]) a1
  (.et ((↑(List.map encWord l).length:Int)≤(↑t:Int)) (by simp only[List.length_map,Int.ofNat_le]) a1
  (.et ((↑(List.map encWord l).length:Int)≤(↑t:Int)) (by simp only[List.length_map,Int.ofNat_le]) a1 (.T (.T (.T (.T (.T (.T (.T (.T (.T (.T (.T (.T (.T (.T
  (.T (Exists.elim (@Tryz.c78 (l) ‹_› (t) (e) (bad) (pos) ((↑t:Int)) (by omega) (by omega)) (fun a6 a7=> .c a7
  (.r (0,t,true,a6) ⟨(by show t≤t;omega),⟨(by show t≤l.length;trivial),(by dsimp only;simp)⟩⟩))))))))))))))))))))))))))))))
  (fun a1=> .eF ((↑(List.map encWord l).length:Int)≤(↑t:Int)) (by simp only[List.length_map,Int.ofNat_le]) a1
  (.eF ((↑(List.map encWord l).length:Int)≤(↑t:Int)) (by simp only[List.length_map,Int.ofNat_le]) a1
  (.eF ((↑(List.map encWord l).length:Int)≤(↑t:Int)) (by simp only[List.length_map,Int.ofNat_le]) a1
  (.eF ((↑(List.map encWord l).length:Int)≤(↑t:Int)) (by simp only[List.length_map,Int.ofNat_le]) a1
  (.eF ((↑(List.map encWord l).length:Int)≤(↑t:Int)) (by simp only[List.length_map,Int.ofNat_le]) a1
  (.eF ((↑(List.map encWord l).length:Int)≤(↑t:Int)) (by simp only[List.length_map,Int.ofNat_le]) a1
  (.eF ((↑(List.map encWord l).length:Int)≤(↑t:Int)) (by simp only[List.length_map,Int.ofNat_le]) a1
  (.eF ((↑(List.map encWord l).length:Int)≤(↑t:Int)) (by simp only[List.length_map,Int.ofNat_le]) a1 (.T (.em encWord l t (by omega)
  (fun a3 a8=> .eF ((↑(List.map encWord l).length:Int)≤(↑t:Int)) (by simp only[List.length_map,Int.ofNat_le]) a1
  (.eF ((↑(List.map encWord l).length:Int)≤(↑t:Int)) (by simp only[List.length_map,Int.ofNat_le]) a1
  (.eF ((↑(List.map encWord l).length:Int)≤(↑t:Int)) (by simp only[List.length_map,Int.ofNat_le]) a1
  (.eF ((↑(List.map encWord l).length:Int)≤(↑t:Int)) (by simp only[List.length_map,Int.ofNat_le]) a1 (.j (a3.Kind=2) (fun a0=> .iu a0 (.iu a0 (.iu a0 (.iu a0 (.iu a0 (.iu a0
  (.iu a0 (.iu a0 (.iu a0 (.iu a0 (.iu a0 (.iu a0 (.iu a0 (.T (Exists.elim (@Tryz.c78 (l) ‹_› (t) (e) (bad) (pos) ((↑t:Int)) (by omega) (by omega)) (fun a9 aa=> .c aa
  (.r (0,t,true,a9) ⟨(by show t≤t;omega),⟨(by show t≤l.length;trivial),(by dsimp only;simp)⟩⟩))))))))))))))))) (fun a0=> .iv a0 (.iv a0 (.iv a0 (.iv a0 (.iv a0 (.iv a0
  (.iv a0 (.iv a0 (.T (.eh encWord a8 (.iv a0 (.iv a0 (.iv a0 (.iv a0 (.iv a0 (.i (n≤a3.N)
  (fun ab=>Exists.elim (@Tryz.c78 (l) ‹_› (t) (e) (bad) (pos) ((↑t:Int)) (by omega) (by omega)) (fun ac ad=> .c ad
  (.r (0,t,true,ac) ⟨(by show t≤t;omega),⟨(by show t≤l.length;trivial),(by dsimp only;simp)⟩⟩)))
  (fun ab=>have a2:=wI64' ((↑t:Int)+(1:Int));have a4:=wI64' ((↑t:Int)+(1:Int)-(1:Int)); .k (0≤IntKind.i64.wrap (IntKind.i64.wrap ((↑t:Int)+1)-1)) (0≤(↑t:Int)+1-1) (by simp only[a4,a2])
  (fun ae=> .eM encWord l ((IntKind.i64.wrap (IntKind.i64.wrap ((↑t:Int)+1)-1)).toNat) (((↑t:Int)+1-1).toNat) (by simp only[a4,a2]) (by omega) (fun a5 af=> .q (Res.mk
  (.int .i64 a5.N) [.box
  (.agg [.tree (List.map encWord l),.int .i64 (IntKind.i64.wrap ((↑t:Int)+1)),.int .i64 e,.bool bad,.int .i64 pos]) true] []) ⟨(a5.N,t+(1:Nat),bad,pos),(by simp[encRd,a2]),⟨(by dsimp only;omega),⟨(by dsimp only;omega),(by dsimp only;omega)⟩⟩⟩))
  (fun ae=>False.elim (by omega))))))))))))))))))))))))))))))))))))
theorem c222 (l:List Word) (hl:l.length≤60) (t:Nat) (ht:t≤l.length) (e:Int) (bad:Bool) (pos:Int):∃p:Flt×Nat×Bool×Int,X.call 222 [.ref (.inc 0) 0 0] [.box (encRd ⟨l,t,e,bad,pos⟩) true] ⟨encFlt p.1,[.box (encRd ⟨l,p.2.1,e,p.2.2.1,p.2.2.2⟩) true],[]⟩∧t≤p.2.1∧p.2.1≤l.length∧p.1.ok∧p.1.short∧p.1.deep≤p.2.1-t+1:=by
 refine spec_ex ok Go.Proofs.Tryz.func222 ok222 ?_
 refine(Exists.elim (@Tryz.c246 (l) ‹_› (t) ‹_› (e) (bad) (pos) ((4:Int)))
  (fun _y8 ⟨ac,aD,aE,aF⟩=> .c ac (Exists.elim (@Tryz.c124 (l) ‹_› (_y8.snd.fst) ‹_› (e) (_y8.snd.snd.fst) (_y8.snd.snd.snd) ([(61:UInt8)]))
  (fun a8 ⟨ad,aG,aH,ae⟩=> .c ad (.n a8.fst
  (fun a9=>have aI:=(ae a9);Exists.elim (@Tryz.c246 (l) ‹_› (a8.snd) ‹_› (e) (_y8.snd.snd.fst) (_y8.snd.snd.snd) ((100:Int))) (fun a6 ⟨af,aJ,aK,aL⟩=> .c af
  (.r (Flt.leaf 2 _y8.fst a6.fst a6.fst [],a6.snd.fst,a6.snd.snd.fst,a6.snd.snd.snd) ⟨(by dsimp only;omega),⟨(by dsimp only;trivial),⟨(by dsimp only;trivial),⟨(by dsimp only;(simp[Flt.short];done)),(by dsimp only;(simp[Flt.deep];done))⟩⟩⟩⟩)))
  (fun a9=>Exists.elim (@Tryz.c124 (l) ‹_› (a8.snd) ‹_› (e) (_y8.snd.snd.fst) (_y8.snd.snd.snd) ([(58:UInt8)])) (fun a5 ⟨ag,aM,aN,ah⟩=> .c ag (.n a5.fst
  (fun aa=>have aO:=(ah aa);Exists.elim (@Tryz.c246 (l) ‹_› (a5.snd) ‹_› (e) (_y8.snd.snd.fst) (_y8.snd.snd.snd) ((100:Int)))
  (fun a2 ⟨ai,aP,aQ,aR⟩=> .c ai (Exists.elim (@Tryz.c124 (l) ‹_› (a2.snd.fst) ‹_› (e) (a2.snd.snd.fst) (a2.snd.snd.snd) ([(45:UInt8)]))
  (fun a7 ⟨aj,aS,aT,ak⟩=> .c aj (.m a7.fst
  (fun ab=>Exists.elim (@Tryz.c78 (l) ‹_› (a7.snd) (e) (a2.snd.snd.fst) (a2.snd.snd.snd) ((↑a7.snd:Int)) (by omega) (by omega))
  (fun al am=> .c am (Exists.elim (@Tryz.c246 (l) ‹_› (a7.snd) ‹_› (e) (Bool.true) (al) ((100:Int))) (fun a0 ⟨an,aU,aV,ao⟩=> .c an (.m a0.snd.snd.fst
  (fun a3=>have aW:=(ao a3); .y a3 (.y a3 (.y a3 (.y a3 (.y a3 (.i (a0.fst<a2.fst)
  (fun ap=>have aq:=wI64' ((↑a0.snd.fst:Int)-(1:Int));Exists.elim (@Tryz.c78 (l) ‹_› (a0.snd.fst) (e) (a0.snd.snd.fst) (a0.snd.snd.snd) ((↑a0.snd.fst:Int)-(1:Int)) (by omega) (by omega))
  (fun ar au=> .C ([.ref (.inc 0) 0 0,.int .i64 (IntKind.i64.wrap ((↑a0.snd.fst:Int)-1))]) ([.box
  (.agg [.tree (List.map encWord l),.int .i64 (↑a0.snd.fst:Int),.int .i64 e,.bool a0.snd.snd.fst,.int .i64 a0.snd.snd.snd]) true]) (by simp only[aq]) rfl au
  (.r (Flt.leaf 3 _y8.fst a2.fst a0.fst [],a0.snd.fst,true,ar) ⟨(by dsimp only;omega),⟨(by dsimp only;trivial),⟨(by dsimp only;trivial),⟨(by dsimp only;(simp[Flt.short];done)),(by dsimp only;(simp[Flt.deep];done))⟩⟩⟩⟩)))
  (fun ap=> .r (Flt.leaf 3 _y8.fst a2.fst a0.fst [],a0.snd.fst,a0.snd.snd.fst,a0.snd.snd.snd) ⟨(by dsimp only;omega),⟨(by dsimp only;trivial),⟨(by dsimp only;trivial),⟨(by dsimp only;(simp[Flt.short];done)),(by dsimp only;(simp[Flt.deep];done))⟩⟩⟩⟩)))))))
  (fun a3=> .x a3 (.x a3 (.x a3 (.x a3 (.x a3 (.F
  (.r (Flt.leaf 3 _y8.fst a2.fst a0.fst [],a0.snd.fst,a0.snd.snd.fst,a0.snd.snd.snd) ⟨(by dsimp only;omega),⟨(by dsimp only;trivial),⟨(by dsimp only;trivial),⟨(by dsimp only;(simp[Flt.short];done)),(by dsimp only;(simp[Flt.deep];done))⟩⟩⟩⟩))))))))))))
  (fun ab=>have aX:=(ak ab);Exists.elim (@Tryz.c246 (l) ‹_› (a7.snd) ‹_› (e) (a2.snd.snd.fst) (a2.snd.snd.snd) ((100:Int))) (fun a1 ⟨av,aY,aZ,aw⟩=> .c av
  (.m a1.snd.snd.fst (fun a4=>have b0:=(aw a4); .y a4 (.y a4 (.y a4 (.y a4 (.y a4 (.i (a1.fst<a2.fst)
  (fun ax=>have ay:=wI64' ((↑a1.snd.fst:Int)-(1:Int));Exists.elim (@Tryz.c78 (l) ‹_› (a1.snd.fst) (e) (a1.snd.snd.fst) (a1.snd.snd.snd) ((↑a1.snd.fst:Int)-(1:Int)) (by omega) (by omega))
  (fun az aA=> .C ([.ref (.inc 0) 0 0,.int .i64 (IntKind.i64.wrap ((↑a1.snd.fst:Int)-1))]) ([.box
  (.agg [.tree (List.map encWord l),.int .i64 (↑a1.snd.fst:Int),.int .i64 e,.bool a1.snd.snd.fst,.int .i64 a1.snd.snd.snd]) true]) (by simp only[ay]) rfl aA
  (.r (Flt.leaf 3 _y8.fst a2.fst a1.fst [],a1.snd.fst,true,az) ⟨(by dsimp only;omega),⟨(by dsimp only;trivial),⟨(by dsimp only;trivial),⟨(by dsimp only;(simp[Flt.short];done)),(by dsimp only;(simp[Flt.deep];done))⟩⟩⟩⟩)))
  (fun ax=> .r (Flt.leaf 3 _y8.fst a2.fst a1.fst [],a1.snd.fst,a1.snd.snd.fst,a1.snd.snd.snd) ⟨(by dsimp only;omega),⟨(by dsimp only;trivial),⟨(by dsimp only;trivial),⟨(by dsimp only;(simp[Flt.short];done)),(by dsimp only;(simp[Flt.deep];done))⟩⟩⟩⟩)))))))
  (fun a4=> .x a4 (.x a4 (.x a4 (.x a4 (.x a4 (.F
  (.r (Flt.leaf 3 _y8.fst a2.fst a1.fst [],a1.snd.fst,a1.snd.snd.fst,a1.snd.snd.snd) ⟨(by dsimp only;omega),⟨(by dsimp only;trivial),⟨(by dsimp only;trivial),⟨(by dsimp only;(simp[Flt.short];done)),(by dsimp only;(simp[Flt.deep];done))⟩⟩⟩⟩)))))))))))))))
  (fun aa=>Exists.elim (@Tryz.c78 (l) ‹_› (a5.snd) (e) (_y8.snd.snd.fst) (_y8.snd.snd.snd) ((↑a5.snd:Int)) (by omega) (by omega)) (fun aB aC=> .c aC
  (.r (Flt.leaf 0 _y8.fst 0 0 [],a5.snd,true,aB) ⟨(by show t≤a5.snd;omega),⟨(by dsimp only;trivial),⟨(by dsimp only;trivial),⟨(by dsimp only;(simp[Flt.short];done)),(by dsimp only;(simp[Flt.deep];done))⟩⟩⟩⟩)))))))))))
end Go.Ab.Tryz
namespace Go.Ab.Tryz
open Go
set_option maxRecDepth 100000
set_option maxHeartbeats 4000000
def RdAt (f:Nat) (l:List Word) (e:Int) (t:Nat) (bad:Bool) (pos:Int):Prop:=
 ∃p:Flt×Nat×Bool×Int,X.call f [.ref (.inc 0) 0 0] [.box (encRd ⟨l,t,e,bad,pos⟩) true] ⟨encFlt p.1,[.box (encRd ⟨l,p.2.1,e,p.2.2.1,p.2.2.2⟩) true],[]⟩∧t≤p.2.1∧p.2.1≤l.length∧p.1.ok∧p.1.short∧p.1.deep≤p.2.1-t+1
theorem one_deep {a:Flt} {n:Nat} (h:a.deep+1≤n):(Flt.one a).deep≤n:=by simp only[Flt.deep];omega
theorem and_ok {a b:Flt} (h:a.ok) (h':b.ok):(Flt.two 5 a b).ok:=⟨.inl rfl,h,h'⟩
theorem or_ok {a b:Flt} (h:a.ok) (h':b.ok):(Flt.two 6 a b).ok:=⟨.inr rfl,h,h'⟩
theorem two_short {o:Int} {a b:Flt} (h:a.short) (h':b.short):(Flt.two o a b).short:=⟨h,h'⟩
theorem not_step (l:List Word) (hl:l.length≤60) (hw:∀w∈l,w.S.length≤1000) (e:Int) (t:Nat) (bad:Bool) (pos:Int) (ht:t≤l.length)
  (jN:∀t' bad pos,t'≤l.length→t<t'→RdAt 180 l e t' bad pos)
  (jO:∀t' bad pos,t'≤l.length→t<t'→RdAt 77 l e t' bad pos):RdAt 180 l e t bad pos:=by
 unfold RdAt at jN jO ⊢
 refine spec_ex ok Go.Proofs.Tryz.func180 ok180 ?_
 refine(Exists.elim (@Tryz.c124 (l) ‹_› (t) ‹_› (e) (bad) (pos) ([(33:UInt8)])) (fun a8 ⟨ak,aN,aO,al⟩=> .c ak (.n a8.fst
  (fun ac=>have aP:=(al ac);Exists.elim (@jN (a8.snd) (bad) (pos) ‹_› ‹_›) (fun a7 ⟨am,aQ,aR,aS,aT,aU⟩=> .c am
  (.r (a7.fst.one,a7.snd.fst,a7.snd.snd.fst,a7.snd.snd.snd) ⟨(by dsimp only;omega),⟨(by dsimp only;trivial),⟨(by dsimp only;trivial),⟨(by dsimp only;trivial),(by dsimp only;(refine one_deep ?_;omega))⟩⟩⟩⟩)))
  (fun ac=>Exists.elim (@Tryz.c124 (l) ‹_› (a8.snd) ‹_› (e) (bad) (pos) ([(40:UInt8)])) (fun a9 ⟨an,aV,aW,ao⟩=> .c an (.n a9.fst
  (fun ad=>have aX:=(ao ad);Exists.elim (@jO (a9.snd) (bad) (pos) ‹_› (by omega))
  (fun a2 ⟨ap,aY,aZ,b0,b1,b2⟩=> .c ap (Exists.elim (@Tryz.c124 (l) ‹_› (a2.snd.fst) ‹_› (e) (a2.snd.snd.fst) (a2.snd.snd.snd) ([(41:UInt8)]))
  (fun a3 ⟨aq,b3,b4,ar⟩=> .c aq (.m a3.fst
  (fun ae=>Exists.elim (@Tryz.c78 (l) ‹_› (a3.snd) (e) (a2.snd.snd.fst) (a2.snd.snd.snd) ((↑a3.snd:Int)) (by omega) (by omega)) (fun au av=> .c av
  (.r (a2.fst,a3.snd,true,au) ⟨(by show t≤a3.snd;omega),⟨(by dsimp only;trivial),⟨(by show a2.fst.ok;trivial),⟨(by dsimp only;trivial),(by dsimp only;omega)⟩⟩⟩⟩)))
  (fun ae=>have b5:=(ar ae); .r (a2.fst,a3.snd,a2.snd.snd.fst,a2.snd.snd.snd) ⟨(by show t≤a3.snd;omega),⟨(by dsimp only;trivial),⟨(by show a2.fst.ok;trivial),⟨(by dsimp only;trivial),(by dsimp only;omega)⟩⟩⟩⟩))))))
  (fun ad=>Exists.elim (@Tryz.c124 (l) ‹_› (a9.snd) ‹_› (e) (bad) (pos) ([(42:UInt8)])) (fun a5 ⟨aw,b6,b7,ax⟩=> .c aw (.n a5.fst
  (fun af=>have b8:=(ax af); .r (Flt.leaf 1 0 0 0 [],a5.snd,bad,pos) ⟨(by show t≤a5.snd;omega),⟨(by dsimp only;trivial),⟨(by dsimp only;trivial),⟨(by dsimp only;(simp[Flt.short];done)),(by show(1:Nat)≤a5.snd-t+(1:Nat);omega)⟩⟩⟩⟩)
  (fun af=>Exists.elim (@Tryz.c124 (l) ‹_› (a5.snd) ‹_› (e) (bad) (pos) ([(94:UInt8)])) (fun a0 ⟨ay,b9,ba,az⟩=> .c ay (.n a0.fst
  (fun ag=>have bb:=(az ag); .k ((↑(List.map encWord l).length:Int)≤(↑a0.snd:Int)) (l.length≤a0.snd) (by simp only[List.length_map,Int.ofNat_le])
  (fun a1=> .et ((↑(List.map encWord l).length:Int)≤(↑a0.snd:Int)) (by simp only[List.length_map,Int.ofNat_le]) a1
  (.et ((↑(List.map encWord l).length:Int)≤(↑a0.snd:Int)) (by simp only[List.length_map,Int.ofNat_le]) a1
  (.et ((↑(List.map encWord l).length:Int)≤(↑a0.snd:Int)) (by simp only[List.length_map,Int.ofNat_le]) a1
  (.et ((↑(List.map encWord l).length:Int)≤(↑a0.snd:Int)) (by simp only[List.length_map,Int.ofNat_le]) a1
  (.et ((↑(List.map encWord l).length:Int)≤(↑a0.snd:Int)) (by simp only[List.length_map,Int.ofNat_le]) a1
  (.et ((↑(List.map encWord l).length:Int)≤(↑a0.snd:Int)) (by simp only[List.length_map,Int.ofNat_le]) a1
  (.et ((↑(List.map encWord l).length:Int)≤(↑a0.snd:Int)) (by simp only[List.length_map,Int.ofNat_le]) a1
  (.et ((↑(List.map encWord l).length:Int)≤(↑a0.snd:Int)) (by simp only[List.length_map,Int.ofNat_le]) a1
  (.et ((↑(List.map encWord l).length:Int)≤(↑a0.snd:Int)) (by simp only[List.length_map,Int.ofNat_le]) a1
  (.et ((↑(List.map encWord l).length:Int)≤(↑a0.snd:Int)) (by simp only[List.length_map,Int.ofNat_le]) a1
  (.et ((↑(List.map encWord l).length:Int)≤(↑a0.snd:Int)) (by simp only[List.length_map,Int.ofNat_le]) a1
  (.et ((↑(List.map encWord l).length:Int)≤(↑a0.snd:Int)) (by simp only[List.length_map,Int.ofNat_le]) a1
  (.T (Exists.elim (@Tryz.c78 (l) ‹_› (a0.snd) (e) (bad) (pos) ((↑a0.snd:Int)) (by omega) (by omega)) (fun aA aB=> .c aB
  (.r (Flt.leaf 0 0 0 0 [],a0.snd,true,aA) ⟨(by show t≤a0.snd;omega),⟨(by dsimp only;trivial),⟨(by dsimp only;trivial),⟨(by dsimp only;(simp[Flt.short];done)),(by show(1:Nat)≤a0.snd-t+(1:Nat);omega)⟩⟩⟩⟩))))))))))))))))
  (fun a1=> .eF ((↑(List.map encWord l).length:Int)≤(↑a0.snd:Int)) (by simp only[List.length_map,Int.ofNat_le]) a1
  (.eF ((↑(List.map encWord l).length:Int)≤(↑a0.snd:Int)) (by simp only[List.length_map,Int.ofNat_le]) a1
  (.eF ((↑(List.map encWord l).length:Int)≤(↑a0.snd:Int)) (by simp only[List.length_map,Int.ofNat_le]) a1
  (.eF ((↑(List.map encWord l).length:Int)≤(↑a0.snd:Int)) (by simp only[List.length_map,Int.ofNat_le]) a1
  (.eF ((↑(List.map encWord l).length:Int)≤(↑a0.snd:Int)) (by simp only[List.length_map,Int.ofNat_le]) a1
  (.eF ((↑(List.map encWord l).length:Int)≤(↑a0.snd:Int)) (by simp only[List.length_map,Int.ofNat_le]) a1
  (.eF ((↑(List.map encWord l).length:Int)≤(↑a0.snd:Int)) (by simp only[List.length_map,Int.ofNat_le]) a1
  (.eF ((↑(List.map encWord l).length:Int)≤(↑a0.snd:Int)) (by simp only[List.length_map,Int.ofNat_le]) a1 (.T (.em encWord l a0.snd (by omega)
  (fun ah aC=>have bc:=(hw ah (List.mem_of_getElem? aC)); .eF ((↑(List.map encWord l).length:Int)≤(↑a0.snd:Int)) (by simp only[List.length_map,Int.ofNat_le]) a1
  (.eF ((↑(List.map encWord l).length:Int)≤(↑a0.snd:Int)) (by simp only[List.length_map,Int.ofNat_le]) a1
  (.eF ((↑(List.map encWord l).length:Int)≤(↑a0.snd:Int)) (by simp only[List.length_map,Int.ofNat_le]) a1
  (.eF ((↑(List.map encWord l).length:Int)≤(↑a0.snd:Int)) (by simp only[List.length_map,Int.ofNat_le]) a1 (.j (ah.Kind=1)
  (fun aD=>Exists.elim (@Tryz.c78 (l) ‹_› (a0.snd) (e) (bad) (pos) ((↑a0.snd:Int)) (by omega) (by omega)) (fun aE aF=> .c aF
  (.r (Flt.leaf 0 0 0 0 [],a0.snd,true,aE) ⟨(by show t≤a0.snd;omega),⟨(by dsimp only;trivial),⟨(by dsimp only;trivial),⟨(by dsimp only;(simp[Flt.short];done)),(by show(1:Nat)≤a0.snd-t+(1:Nat);omega)⟩⟩⟩⟩)))
  (fun aD=>have aa:=wI64' ((↑a0.snd:Int)+(1:Int));have ai:=wI64' ((↑a0.snd:Int)+(1:Int)-(1:Int)); .k (0≤IntKind.i64.wrap (IntKind.i64.wrap ((↑a0.snd:Int)+1)-1)) (0≤(↑a0.snd:Int)+1-1) (by simp only[ai,aa])
  (fun aG=> .eM encWord l ((IntKind.i64.wrap (IntKind.i64.wrap ((↑a0.snd:Int)+1)-1)).toNat) (((↑a0.snd:Int)+1-1).toNat) (by simp only[ai,aa]) (by omega)
  (fun ab aH=>have bd:=(hw ab (List.mem_of_getElem? aH)); .q (Res.mk (.agg [.int .i64 4,.int .i64 0,.int .i64 0,.int .i64 0,.str ab.S,.tree []]) [.box
  (.agg [.tree (List.map encWord l),.int .i64 (IntKind.i64.wrap ((↑a0.snd:Int)+1)),.int .i64 e,.bool bad,.int .i64 pos]) true] []) ⟨(Flt.leaf (4:Int) (0:Int) (0:Int) (0:Int) ab.S,a0.snd+(1:Nat),bad,pos),(by simp[encRd,encFlt_leaf,aa]),⟨(by dsimp only;omega),⟨(by dsimp only;omega),⟨(by dsimp only;trivial),⟨(by dsimp only;(have:=hw _ (List.mem_of_getElem? ‹_›);simp[Flt.short];omega)),(by dsimp only;(simp[Flt.deep];done))⟩⟩⟩⟩⟩))
  (fun aG=>False.elim (by omega))))))))))))))))))) (fun ag=>Exists.elim (@Tryz.c124 (l) ‹_› (a0.snd) ‹_› (e) (bad) (pos) ([(64:UInt8)])) (fun a4 ⟨aI,be,bf,aJ⟩=> .c aI
  (.n a4.fst (fun aj=>have bg:=(aJ aj);Exists.elim (@Tryz.c222 (l) ‹_› (a4.snd) ‹_› (e) (bad) (pos)) (fun a6 ⟨aK,bh,bi,bj,bk,bl⟩=> .c aK
  (.r (a6.fst,a6.snd.fst,a6.snd.snd.fst,a6.snd.snd.snd) ⟨(by dsimp only;omega),⟨(by dsimp only;trivial),⟨(by show a6.fst.ok;trivial),⟨(by dsimp only;trivial),(by dsimp only;omega)⟩⟩⟩⟩)))
  (fun aj=>Exists.elim (@Tryz.c78 (l) ‹_› (a4.snd) (e) (bad) (pos) ((↑a4.snd:Int)) (by omega) (by omega)) (fun aL aM=> .c aM
  (.r (Flt.leaf 0 0 0 0 [],a4.snd,true,aL) ⟨(by show t≤a4.snd;omega),⟨(by dsimp only;trivial),⟨(by dsimp only;trivial),⟨(by dsimp only;(simp[Flt.short];done)),(by show(1:Nat)≤a4.snd-t+(1:Nat);omega)⟩⟩⟩⟩))))))))))))))))))
theorem and_step (l:List Word) (hl:l.length≤60) (e:Int) (t:Nat) (bad:Bool) (pos:Int) (ht:t≤l.length)
  (jN:∀t' bad pos,t'≤l.length→t≤t'→RdAt 180 l e t' bad pos):RdAt 123 l e t bad pos:=by
 unfold RdAt at jN ⊢
 refine spec_ex ok Go.Proofs.Tryz.func123 ok123 ?_
 refine(Exists.elim (@jN (t) (bad) (pos) ‹_› (by omega)) (fun _y9 ⟨a6,ad,ae,af,ag,ah⟩=> .c a6 ?_))
 refine SatE.pUnroll 2 (St.mk [(0,.ref (.inc 0) 0 0),(2,.ref (.head 2 0) 0 0),(3,.ref (.head 3 0) 0 0)] [(.inc 0,.box
  (.agg [.tree (List.map encWord l),.int .i64 (↑_y9.snd.fst:Int),.int .i64 e,.bool _y9.snd.snd.fst,.int .i64 _y9.snd.snd.snd]) true),(.head 2 0,.box
  (.agg [.int .i64 0,.int .i64 0,.int .i64 0,.int .i64 0,.str [],.nils]) true),(.head 3 0,.box (encFlt _y9.fst) true)]) (by kernel_rfl) ?_
 refine(Exists.elim (@Tryz.c124 (l) ‹_› (_y9.snd.fst) ‹_› (e) (_y9.snd.snd.fst) (_y9.snd.snd.snd) ([(38:UInt8)])) (fun a2 ⟨a7,ai,aj,a8⟩=> .c a7 (.n a2.fst
  (fun a4=>have ak:=(a8 a4);Exists.elim (@jN (a2.snd) (_y9.snd.snd.fst) (_y9.snd.snd.snd) ‹_› (by omega)) (fun a0 ⟨a9,al,am,an,ao,ap⟩=> .c a9 ?_))
  (fun a4=> .r (_y9.fst,a2.snd,_y9.snd.snd.fst,_y9.snd.snd.snd) ⟨(by show t≤a2.snd;omega),⟨(by dsimp only;trivial),⟨(by show _y9.fst.ok;trivial),⟨(by show _y9.fst.short;trivial),(by dsimp only;omega)⟩⟩⟩⟩))))
 refine SatE.pLoop 2 (St.mk [(0,.ref (.inc 0) 0 0),(2,.ref (.head 2 0) 0 0),(3,.ref (.head 3 0) 0 0)] [(.inc 0,.box
  (.agg [.tree (List.map encWord l),.int .i64 (↑a0.snd.fst:Int),.int .i64 e,.bool a0.snd.snd.fst,.int .i64 a0.snd.snd.snd]) true),(.head 2 0,.box
  (.agg [.int .i64 0,.int .i64 0,.int .i64 0,.int .i64 0,.str [],.nils]) true),(.head 3 0,.box (.agg [.int .i64 5,.int .i64 0,.int .i64 0,.int .i64 0,.str [],.sref (.head 3 1) 0 2]) true),
  (.head 3 1,.row 6 [encFlt _y9.fst,encFlt a0.fst] true true)]) (by kernel_rfl) (fun(p:Flt×Flt×Nat×Bool×Int)=>⟨[(0,.ref (.inc 0) 0 0),(2,.ref (.head 2 0) 0 0),(3,.ref
  (.head 3 0) 0 0)],[(.inc 0,.box (encRd ⟨l,p.2.2.1,e,p.2.2.2.1,p.2.2.2.2⟩) true),(.head 2 0,.box (.agg [.int .i64 0,.int .i64 0,.int .i64 0,.int .i64 0,.str [],.nils]) true),
  (.head 3 0,.box (.agg [.int .i64 5,.int .i64 0,.int .i64 0,.int .i64 0,.str [],.sref (.head 3 1) 0 2]) true),
  (.head 3 1,.row 6 [encFlt p.1,encFlt p.2.1] true true)]⟩) (fun p=>t≤p.2.2.1∧p.2.2.1≤l.length∧p.1.ok∧p.1.short∧p.1.deep+1≤p.2.2.1-t+1∧p.2.1.ok∧p.2.1.short∧p.2.1.deep+1≤p.2.2.1-t+1) (fun p=>l.length-p.2.2.1) (_y9.1,a0.1,a0.2.1,a0.2.2.1,a0.2.2.2) rfl ?_ ?_
 ·exact⟨by dsimp only;omega,by dsimp only;omega,by assumption,by assumption,by dsimp only;omega,by assumption,by assumption,by dsimp only;omega⟩
 ·rintro⟨f,g,t',bad',pos'⟩ hI again
  obtain⟨h1,h2,h3,h4,h5,h6,h7,h8⟩:=hI
  simp only at h1 h2 h3 h4 h5 h6 h7 h8
  refine(Exists.elim (@Tryz.c124 (l) ‹_› (t') ‹_› (e) (bad') (pos') ([(38:UInt8)])) (fun a3 ⟨aa,aq,ar,ab⟩=> .c aa (.n a3.fst
   (fun a5=>have au:=(ab a5);Exists.elim (@jN (a3.snd) (bad') (pos') ‹_› (by omega)) (fun a1 ⟨ac,av,aw,ax,ay,az⟩=> .c ac
   (.a (again ((Flt.two (5:Int) f g,a1.fst,a1.snd.fst,a1.snd.snd.fst,a1.snd.snd.snd)) ⟨(by dsimp only;omega),⟨(by dsimp only;omega),⟨(by dsimp only;(clear again;(refine and_ok ?_ ?_ <;>assumption))),⟨(by dsimp only;(clear again;(refine two_short ?_ ?_ <;>assumption))),⟨(by dsimp only;(clear again;(simp only[Flt.deep];omega))),⟨(by show a1.fst.ok;omega),⟨(by dsimp only;omega),(by dsimp only;omega)⟩⟩⟩⟩⟩⟩⟩ (by dsimp only;omega)))))
   (fun a5=> .r (Flt.two 5 f g,a3.snd,bad',pos') ⟨(by show t≤a3.snd;omega),⟨(by dsimp only;(clear again;trivial)),⟨(by dsimp only;(clear again;trivial)),⟨(by dsimp only;(clear again;trivial)),(by dsimp only;(clear again;(simp only[Flt.deep];omega)))⟩⟩⟩⟩))))
theorem or_step (l:List Word) (hl:l.length≤60) (e:Int) (t:Nat) (bad:Bool) (pos:Int) (ht:t≤l.length)
  (jN:∀t' bad pos,t'≤l.length→t≤t'→RdAt 123 l e t' bad pos):RdAt 77 l e t bad pos:=by
 unfold RdAt at jN ⊢
 refine spec_ex ok Go.Proofs.Tryz.func77 ok77 ?_
 refine(Exists.elim (@jN (t) (bad) (pos) ‹_› (by omega)) (fun _y9 ⟨a6,ad,ae,af,ag,ah⟩=> .c a6 ?_))
 refine SatE.pUnroll 2 (St.mk [(0,.ref (.inc 0) 0 0),(2,.ref (.head 2 0) 0 0),(3,.ref (.head 3 0) 0 0)] [(.inc 0,.box
  (.agg [.tree (List.map encWord l),.int .i64 (↑_y9.snd.fst:Int),.int .i64 e,.bool _y9.snd.snd.fst,.int .i64 _y9.snd.snd.snd]) true),(.head 2 0,.box
  (.agg [.int .i64 0,.int .i64 0,.int .i64 0,.int .i64 0,.str [],.nils]) true),(.head 3 0,.box (encFlt _y9.fst) true)]) (by kernel_rfl) ?_
 refine(Exists.elim (@Tryz.c124 (l) ‹_› (_y9.snd.fst) ‹_› (e) (_y9.snd.snd.fst) (_y9.snd.snd.snd) ([(124:UInt8)])) (fun a2 ⟨a7,ai,aj,a8⟩=> .c a7 (.n a2.fst
  (fun a4=>have ak:=(a8 a4);Exists.elim (@jN (a2.snd) (_y9.snd.snd.fst) (_y9.snd.snd.snd) ‹_› (by omega)) (fun a0 ⟨a9,al,am,an,ao,ap⟩=> .c a9 ?_))
  (fun a4=> .r (_y9.fst,a2.snd,_y9.snd.snd.fst,_y9.snd.snd.snd) ⟨(by show t≤a2.snd;omega),⟨(by dsimp only;trivial),⟨(by show _y9.fst.ok;trivial),⟨(by show _y9.fst.short;trivial),(by dsimp only;omega)⟩⟩⟩⟩))))
 refine SatE.pLoop 2 (St.mk [(0,.ref (.inc 0) 0 0),(2,.ref (.head 2 0) 0 0),(3,.ref (.head 3 0) 0 0)] [(.inc 0,.box
  (.agg [.tree (List.map encWord l),.int .i64 (↑a0.snd.fst:Int),.int .i64 e,.bool a0.snd.snd.fst,.int .i64 a0.snd.snd.snd]) true),(.head 2 0,.box
  (.agg [.int .i64 0,.int .i64 0,.int .i64 0,.int .i64 0,.str [],.nils]) true),(.head 3 0,.box (.agg [.int .i64 6,.int .i64 0,.int .i64 0,.int .i64 0,.str [],.sref (.head 3 1) 0 2]) true),
  (.head 3 1,.row 6 [encFlt _y9.fst,encFlt a0.fst] true true)]) (by kernel_rfl) (fun(p:Flt×Flt×Nat×Bool×Int)=>⟨[(0,.ref (.inc 0) 0 0),(2,.ref (.head 2 0) 0 0),(3,.ref
  (.head 3 0) 0 0)],[(.inc 0,.box (encRd ⟨l,p.2.2.1,e,p.2.2.2.1,p.2.2.2.2⟩) true),(.head 2 0,.box (.agg [.int .i64 0,.int .i64 0,.int .i64 0,.int .i64 0,.str [],.nils]) true),
  (.head 3 0,.box (.agg [.int .i64 6,.int .i64 0,.int .i64 0,.int .i64 0,.str [],.sref (.head 3 1) 0 2]) true),
  (.head 3 1,.row 6 [encFlt p.1,encFlt p.2.1] true true)]⟩) (fun p=>t≤p.2.2.1∧p.2.2.1≤l.length∧p.1.ok∧p.1.short∧p.1.deep+1≤p.2.2.1-t+1∧p.2.1.ok∧p.2.1.short∧p.2.1.deep+1≤p.2.2.1-t+1) (fun p=>l.length-p.2.2.1) (_y9.1,a0.1,a0.2.1,a0.2.2.1,a0.2.2.2) rfl ?_ ?_
 ·exact⟨by dsimp only;omega,by dsimp only;omega,by assumption,by assumption,by dsimp only;omega,by assumption,by assumption,by dsimp only;omega⟩
 ·rintro⟨f,g,t',bad',pos'⟩ hI again
  obtain⟨h1,h2,h3,h4,h5,h6,h7,h8⟩:=hI
  simp only at h1 h2 h3 h4 h5 h6 h7 h8
  refine(Exists.elim (@Tryz.c124 (l) ‹_› (t') ‹_› (e) (bad') (pos') ([(124:UInt8)])) (fun a3 ⟨aa,aq,ar,ab⟩=> .c aa (.n a3.fst
   (fun a5=>have au:=(ab a5);Exists.elim (@jN (a3.snd) (bad') (pos') ‹_› (by omega)) (fun a1 ⟨ac,av,aw,ax,ay,az⟩=> .c ac
   (.a (again ((Flt.two (6:Int) f g,a1.fst,a1.snd.fst,a1.snd.snd.fst,a1.snd.snd.snd)) ⟨(by dsimp only;omega),⟨(by dsimp only;omega),⟨(by dsimp only;(clear again;(refine or_ok ?_ ?_ <;>assumption))),⟨(by dsimp only;(clear again;(refine two_short ?_ ?_ <;>assumption))),⟨(by dsimp only;(clear again;(simp only[Flt.deep];omega))),⟨(by show a1.fst.ok;omega),⟨(by dsimp only;omega),(by dsimp only;omega)⟩⟩⟩⟩⟩⟩⟩ (by dsimp only;omega)))))
   (fun a5=> .r (Flt.two 6 f g,a3.snd,bad',pos') ⟨(by show t≤a3.snd;omega),⟨(by dsimp only;(clear again;trivial)),⟨(by dsimp only;(clear again;trivial)),⟨(by dsimp only;(clear again;trivial)),(by dsimp only;(clear again;(simp only[Flt.deep];omega)))⟩⟩⟩⟩))))
theorem parse_all (l:List Word) (hl:l.length≤60) (hw:∀w∈l,w.S.length≤1000) (e:Int):∀(n t:Nat) (bad:Bool) (pos:Int),t≤l.length→l.length-t≤n→
  RdAt 180 l e t bad pos∧RdAt 77 l e t bad pos:=by
 intro n
 induction n using Nat.strongRecOn with
 |_ n ih=>
  have hN:∀(t:Nat) (bad:Bool) (pos:Int),t≤l.length→l.length-t≤n→RdAt 180 l e t bad pos:=fun t bad pos ht hn=>
   not_step l hl hw e t bad pos ht (fun t' b p h1 h2=>(ih (l.length-t') (by omega) t' b p h1 (by omega)).1) (fun t' b p h1 h2=>(ih (l.length-t') (by omega) t' b p h1 (by omega)).2)
  have hA:∀(t:Nat) (bad:Bool) (pos:Int),t≤l.length→l.length-t≤n→RdAt 123 l e t bad pos:=fun t bad pos ht hn=>
   and_step l hl e t bad pos ht (fun t' b p h1 h2=>hN t' b p h1 (by omega))
  exact fun t bad pos ht hn=>⟨hN t bad pos ht hn,or_step l hl e t bad pos ht (fun t' b p h1 h2=>hA t' b p h1 (by omega))⟩
theorem or_call (l:List Word) (hl:l.length≤60) (hw:∀w∈l,w.S.length≤1000) (e:Int) (t:Nat) (bad:Bool) (pos:Int) (ht:t≤l.length):RdAt 77 l e t bad pos:=
 (parse_all l hl hw e _ t bad pos ht (Nat.le_refl _)).2
theorem c77 (l:List Word) (hl:l.length≤60) (hw:∀w∈l,w.S.length≤1000) (e:Int) (t:Nat) (bad:Bool) (pos:Int) (ht:t≤l.length):∃p:Flt×Nat×Bool×Int,X.call 77 [.ref (.inc 0) 0 0] [.box (encRd ⟨l,t,e,bad,pos⟩) true] ⟨encFlt p.1,[.box (encRd ⟨l,p.2.1,e,p.2.2.1,p.2.2.2⟩) true],[]⟩∧t≤p.2.1∧p.2.1≤l.length∧p.1.ok∧p.1.short∧p.1.deep≤p.2.1-t+1:=or_call l hl hw e t bad pos ht
theorem parse_ex (s:List UInt8) (hs:s.length≤100000):∃p:Flt×Int×Bool,X.call 31 [.str s] [] ⟨.tuple [encFlt p.1,.int .i64 p.2.1,.bool p.2.2],[],[]⟩∧p.1.ok∧p.1.short∧(p.2.2=true→s.length≤80):=by
 refine spec_ex ok Go.Proofs.Tryz.func31 ok31 ?_
 refine(Exists.elim (@Tryz.c76 (s) ‹_›) (fun _y3 ⟨a1,a9,aa,a2⟩=> .c a1 (.m _y3.snd.snd
  (fun _h8=> .r (Flt.leaf 0 0 0 0 [],_y3.snd.fst,false) ⟨(by dsimp only;trivial),⟨(by dsimp only;(simp[Flt.short];done)),(by dsimp only;(simp[Flt.ok];done))⟩⟩)
  (fun _h8=>have ab:=(a2 _h8);Exists.elim (@Tryz.c77 (_y3.fst) ‹_› ‹_› ((↑s.length:Int)) ((0:Nat)) (Bool.false) ((0:Int)) (by omega))
  (fun a0 ⟨a3,ac,ad,ae,af,ag⟩=> .c a3 (.kl encWord _y3.fst a0.snd.fst
  (fun a4=>Exists.elim (@Tryz.c78 (_y3.fst) ‹_› (a0.snd.fst) (↑s.length) (a0.snd.snd.fst) (a0.snd.snd.snd) ((↑a0.snd.fst:Int)) (by omega) (by omega)) (fun a5 a6=> .c a6 (.T
  (.r (Flt.leaf 0 0 0 0 [],a5,false) ⟨(by dsimp only;trivial),⟨(by dsimp only;(simp[Flt.short];done)),(by dsimp only;omega)⟩⟩)))) (fun a4=> .n a0.snd.snd.fst
  (fun a7=> .r (Flt.leaf 0 0 0 0 [],a0.snd.snd.snd,false) ⟨(by dsimp only;trivial),⟨(by dsimp only;(simp[Flt.short];done)),(by dsimp only;omega)⟩⟩)
  (fun a7=> .c (@Tryz.c79 (a0.fst) (by omega)) (.k (6<(↑a0.fst.deep:Int)) (6<a0.fst.deep) (by simp only[ciLt])
  (fun a8=> .r (Flt.leaf 0 0 0 0 [],(↑s.length:Int),false) ⟨(by dsimp only;trivial),⟨(by dsimp only;(simp[Flt.short];done)),(by dsimp only;omega)⟩⟩)
  (fun a8=> .r (a0.fst,0,true) ⟨(by show a0.fst.ok;trivial),⟨(by dsimp only;trivial),(by dsimp only;omega)⟩⟩))))))))))
end Go.Ab.Tryz
