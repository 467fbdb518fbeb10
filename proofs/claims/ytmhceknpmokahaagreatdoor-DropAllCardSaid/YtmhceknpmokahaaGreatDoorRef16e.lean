/- Package cardamomref16: gossip out of bytes, as plain Lean. -/
import Derived.Test.YtmhceknpmokahaaGreatDoorRef16c
import Derived.Test.YtmhceknpmokahaaGreatDoorRef16d
namespace Go.Ab.Tryz
open Go
set_option maxRecDepth 100000
set_option maxHeartbeats 4000000
def SmV (n:Nat) (v:View):Prop:=v.Filter.length≤n∧v.Seen.length≤n∧v.Epochs.length≤10
theorem SmV.app {n:Nat} {l:List View} {w:View} (h:∀v∈l,SmV n v) (hw:SmV n w):∀v∈l++[w],SmV n v:=fun v hv=>by
 rcases List.mem_append.1 hv with hv|hv
 ·exact h v hv
 ·rw[List.mem_singleton.1 hv];exact hw
theorem c169 (b:List UInt8) (size:Nat) (h4:size≤5) (hb:b.length≤5000):∃p:Gossip×Bool,X.call 169 [.tree (b.map encB),.int .i64 size] [] ⟨.tuple [encGossip p.1,.bool p.2],[],[]⟩∧(p.2=true→p.1.may parse size=true)∧(p.2=true→IsGoss b p.1):=by
 refine spec_ex ok Go.Proofs.Tryz.func169 ok169 ?_
 have again_b:∀(F T n:Int) (B:List UInt8) (bad:Bool) (vs:List View) (hv:∀v∈vs,SmV 5001 v) (hvl:vs.length≤5001) (hB:B.length≤5000) (hn0:0≤n) (hn:n≤1000000000000),SatE X 169 (loopD X.cfg 169 Go.Proofs.Tryz.f169 0 26 ⟨[(0,.tree (b.map encB)),(1,.int .i64 size),(4,.ref (.head 4 0) 0 0),(6,.ref (.head 6 0) 0 0),(7,.ref (.head 7 0) 0 0),(13,.int .i64 n)],[(.head 4 0,.box (.agg [.int .i64 0,.int .i64 0,.sref (.head 4 1) 0 0,.sref (.head 4 2) 0 0]) true),(.head 4 1,.row 5 [] true true),(.head 4 2,.row 8 [] true true),(.head 6 0,.box (.agg [.tree (B.map encB),.bool bad]) true),(.head 7 0,.box (.agg [.int .i64 F,.int .i64 T,.sref (.head 7 1) 0 vs.length,.sref (.head 7 2) 0 0]) true),(.head 7 1,.row 5 (vs.map encView) true true),(.head 7 2,.row 8 [] true true)]⟩) (fun r=>∃p:Gossip×Bool,r=⟨.tuple [encGossip p.1,.bool p.2],[],[]⟩∧(p.2=true→p.1.may parse size=true)∧(p.2=true→IsGoss b p.1)):=by
  intro F T n B bad vs hv hvl hB hn0 hn
  refine SatE.pLoop 26 (St.mk [(0,.tree (List.map encB b)),(1,.int .i64 (↑size:Int)),(4,.ref (.head 4 0) 0 0),(6,.ref (.head 6 0) 0 0),(7,.ref
   (.head 7 0) 0 0),(13,.int .i64 n)] [(.head 4 0,.box (.agg [.int .i64 0,.int .i64 0,.sref (.head 4 1) 0 0,.sref (.head 4 2) 0 0]) true),(.head 4 1,.row 5 [] true true),
   (.head 4 2,.row 8 [] true true),(.head 6 0,.box (.agg [.tree (List.map encB B),.bool bad]) true),(.head 7 0,.box (.agg [.int .i64 F,.int .i64 T,.sref (.head 7 1) 0 vs.length,.sref
   (.head 7 2) 0 0]) true),(.head 7 1,.row 5 (List.map encView vs) true true),
   (.head 7 2,.row 8 [] true true)]) (by kernel_rfl) (fun(p:Int×List UInt8×Bool×List Version)=>⟨[(0,.tree (b.map encB)),(1,.int .i64 size),(4,.ref (.head 4 0) 0 0),(6,.ref
   (.head 6 0) 0 0),(7,.ref (.head 7 0) 0 0),(13,.int .i64 p.1)],[(.head 4 0,.box (.agg [.int .i64 0,.int .i64 0,.sref (.head 4 1) 0 0,.sref (.head 4 2) 0 0]) true),
   (.head 4 1,.row 5 [] true true),(.head 4 2,.row 8 [] true true),(.head 6 0,.box (.agg [.tree (p.2.1.map encB),.bool p.2.2.1]) true),(.head 7 0,.box (.agg [.int .i64 F,.int .i64 T,.sref
   (.head 7 1) 0 vs.length,.sref (.head 7 2) 0 p.2.2.2.length]) true),(.head 7 1,.row 5 (vs.map encView) true true),
   (.head 7 2,.row 8 (p.2.2.2.map encVersion) true true)]⟩) (fun p=>p.1≤1000000000000∧ -1000000000000≤p.1∧p.2.1.length≤5000∧p.2.2.2.length≤5001∧p.2.1.length+p.2.2.2.length≤5000∧(∀v∈p.2.2.2,v.may=true)) (fun p=>p.2.1.length) (n,B,bad,[]) rfl ?_ ?_
  ·exact⟨by dsimp only;omega,by dsimp only;omega,by dsimp only;omega,by simp,by simp;omega,by simp⟩
  ·rintro⟨m,C,bad2,ws⟩ hI again
   obtain⟨i1,i2,i3,i4,i5,i6⟩:=hI
   simp only at i1 i2 i3 i4 i5 i6
   refine(.i (0<m) (fun a6=> .it a6 (.it a6 (.it a6 (.it a6 (.it a6 (.m bad2 (fun ao=>Exists.elim (@Tryz.c218 (C) ‹_›) (fun aa ⟨aF,bh,ap⟩=> .c aF (.m aa.snd.snd
    (fun an=> .r (Gossip.mk 0 0 [] [],false) ⟨(by dsimp only;(clear again;(intro _;grind))),(by dsimp only;(clear again;(intro _;grind)))⟩)
    (fun an=>have bi:=(ap an).1;have bj:=(ap an).2; .z encB C 1 (fun _=>rfl)
    (.k (0≤(↑aa.snd.fst:Int)∧(↑aa.snd.fst:Int)≤(↑(List.map encB C).length:Int)) (0≤aa.snd.fst∧aa.snd.fst≤C.length) (by simp only[List.length_map,Int.ofNat_le,ciLe])
    (fun aG=> .i ((ws.length+1)*(96:Nat)≤140737488355328) (fun aH=> .k (ws.length=(List.map encVersion ws).length) (True) (by simp only[List.length_map])
    (fun aq=>have aI:=wI64' (m-(1:Int)); .A (St.mk [(0,.tree (List.map encB b)),(1,.int .i64 (↑size:Int)),(4,.ref (.head 4 0) 0 0),(6,.ref (.head 6 0) 0 0),(7,.ref
    (.head 7 0) 0 0),(13,.int .i64 (IntKind.i64.wrap (m-1)))] [(.head 4 0,.box (.agg [.int .i64 0,.int .i64 0,.sref (.head 4 1) 0 0,.sref (.head 4 2) 0 0]) true),(.head 4 1,.row 5 [] true true),
    (.head 4 2,.row 8 [] true true),(.head 6 0,.box (.agg [.tree (List.drop (↑aa.snd.fst:Int).toNat (List.map encB C)),.bool bad2]) true),(.head 7 0,.box (.agg [.int .i64 F,.int .i64 T,.sref
    (.head 7 1) 0 vs.length,.sref (.head 7 2) 0 (ws.length+1)]) true),(.head 7 1,.row 5 (List.map encView vs) true true),
    (.head 7 2,.row 8 (List.map encVersion ws++[encVersion aa.fst]) true true)]) (by simp[encVersion,aI]) (again ((m-(1:Int),List.drop (↑aa.snd.fst:Int).toNat C,bad2,ws++[aa.fst])) ⟨(by dsimp only;omega),⟨(by dsimp only;omega),⟨(by dsimp only;(clear again;(simp;omega))),⟨(by dsimp only;(clear again;(simp;omega))),⟨(by dsimp only;(clear again;(simp;omega))),(by dsimp only;(clear again;(intro _;grind)))⟩⟩⟩⟩⟩ (by dsimp only;(clear again;(simp;omega)))))
    (fun aq=>(aq trivial).elim)) (fun aH=>False.elim (by omega))) (fun aG=>False.elim (by omega))))))) (fun ao=> .t ao
    (.r (Gossip.mk 0 0 [] [],false) ⟨(by dsimp only;(clear again;(intro _;grind))),(by dsimp only;(clear again;(intro _;grind)))⟩)))))))) (fun a6=> .iF a6 (.iF a6 (.iF a6 (.iF a6
    (.iF a6 (.F (.n bad2 (fun aJ=> .r (Gossip.mk 0 0 [] [],false) ⟨(by dsimp only;(clear again;(intro _;grind))),(by dsimp only;(clear again;(intro _;grind)))⟩)
    (fun aJ=>have ar:List.take vs.length (List.map encView vs)=List.map encView vs:=List.take_of_length_le (by simp);have au:List.take ws.length (List.map encVersion ws)=List.map encVersion ws:=List.take_of_length_le (by simp);Exists.elim (@Tryz.c166 (Gossip.mk F T vs ws) ((↑size:Int)) (by omega) (by omega) (by dsimp only;omega) (by dsimp only;omega) (by dsimp only;(clear again;(intro v hv2;have:=hv v hv2;unfold SmV at this;omega))) (by dsimp only;(clear again;(intro v hv2;have f:=Version.may_fit (i6 v hv2);have:=f.al;have:=f.tl;have:=f.bl;omega))))
    (fun ah ⟨aK,bk,av,aw,ax⟩=> .C ([.agg [.int .i64 F,.int .i64 T,.tree (List.take vs.length (List.map encView vs)),.tree (List.take ws.length (List.map encVersion ws))],.int .i64 (↑size:Int)]) ([]) (by simp[encGossip,au,ar]) rfl aK
    (.m ah.snd (fun a5=>have bm:=(ax a5); .y a5 (.y a5 (.y a5 (.y a5 (.y a5 (.T
    (.r (Gossip.mk 0 0 [] [],false) ⟨(by dsimp only;(clear again;(intro _;grind))),(by dsimp only;(clear again;(intro _;grind)))⟩)))))))
    (fun a5=>have bn:=(av a5);have aL:=(aw a5); .x a5 (.z encB ah.fst 1 (fun _=>rfl) (.B (List.map encB ah.fst) ah.fst rfl (.x a5 (.x a5 (.z encB b 1 (fun _=>rfl)
    (.B (List.map encB b) b rfl (.x a5 (.x a5 (.j (ah.fst=b)
    (fun aM=> .r (Gossip.mk 0 0 [] [],false) ⟨(by dsimp only;(clear again;(intro _;grind))),(by dsimp only;(clear again;(intro _;grind)))⟩)
    (fun aM=> .q (Res.mk (AV.tuple [.agg [.int .i64 F,.int .i64 T,.tree (List.take vs.length (List.map encView vs)),.tree (List.take ws.length (List.map encVersion ws))],.bool true]) [] []) ⟨(Gossip.mk F T vs ws,Bool.true),(by simp[encGossip,au,ar]),⟨(by dsimp only;(clear again;(simp;omega))),(by dsimp only;(clear again;(intro _;grind)))⟩⟩))))))))))))))))))))))
 refine(.k ((↑(List.map encB b).length:Int)<2) (b.length<2) (by simp only[List.length_map,icLt])
  (fun _h6=> .et ((↑(List.map encB b).length:Int)<2) (by simp only[List.length_map,icLt]) _h6 (.et ((↑(List.map encB b).length:Int)<2) (by simp only[List.length_map,icLt]) _h6
  (.et ((↑(List.map encB b).length:Int)<2) (by simp only[List.length_map,icLt]) _h6 (.T (.r (Gossip.mk 0 0 [] [],false) ⟨(by dsimp only;simp),(by dsimp only;simp)⟩)))))
  (fun _h6=> .eF ((↑(List.map encB b).length:Int)<2) (by simp only[List.length_map,icLt]) _h6 (.eF ((↑(List.map encB b).length:Int)<2) (by simp only[List.length_map,icLt]) _h6
  (.eF ((↑(List.map encB b).length:Int)<2) (by simp only[List.length_map,icLt]) _h6 (.k (2000<(↑(List.map encB b).length:Int)) (2000<b.length) (by simp only[List.length_map,ciLt])
  (fun _h7=> .r (Gossip.mk 0 0 [] [],false) ⟨(by dsimp only;simp),(by dsimp only;simp)⟩)
  (fun _h7=>have _w8:=wI64' ((↑b.length:Int)-(2:Int)); .k (0≤IntKind.i64.wrap ((↑(List.map encB b).length:Int)-2)∧IntKind.i64.wrap ((↑(List.map encB b).length:Int)-2)≤(↑(List.map encB b).length:Int)) (0≤(↑b.length:Int)-2∧(↑b.length:Int)-2≤(↑b.length:Int)) (by simp only[List.length_map,_w8])
  (fun _h9=>Exists.elim (@Tryz.c216 (List.take ((↑b.length:Int)-(2:Int)).toNat b) (Bool.false) (by(clear again_b;(simp;omega))))
  (fun a0 ai=>have bo:=ai.2.1;have bp:=ai.2.2.1;have aN:=ai.2.2.2.1;have bq:a0.snd.fst.length≤Min.min ((↑b.length:Int)-(2:Int)).toNat b.length:=Iff.mp (by simp only[List.length_take]) aN;have aO:=ai.2.2.2.2;have br:a0.snd.snd=Bool.false→a0.snd.fst.length<Min.min ((↑b.length:Int)-(2:Int)).toNat b.length:=Iff.mp (by simp only[List.length_take]) aO; .C ([.ref
  (.inc 0) 0 0]) ([.box
  (.agg [.tree (List.take (IntKind.i64.wrap ((↑(List.map encB b).length:Int)-2)).toNat (List.map encB b)),.bool false]) true]) rfl (by simp[encBr,_w8]) ai.1 (Exists.elim (@Tryz.c216 (a0.snd.fst) (a0.snd.snd) (by omega))
  (fun a1 ⟨aP,bs,bt,bu,bv⟩=> .c aP (Exists.elim (@Tryz.c216 (a1.snd.fst) (a1.snd.snd) (by omega)) (fun ac ⟨aQ,bw,bx,bz,bA⟩=> .c aQ ?_))))))
  (fun _h9=>False.elim (by omega))))))))
 refine SatE.pLoop 7 (St.mk [(0,.tree (List.map encB b)),(1,.int .i64 (↑size:Int)),(4,.ref (.head 4 0) 0 0),(6,.ref (.head 6 0) 0 0),(7,.ref
  (.head 7 0) 0 0),(8,.int .i64 ac.fst)] [(.head 4 0,.box (.agg [.int .i64 0,.int .i64 0,.sref (.head 4 1) 0 0,.sref (.head 4 2) 0 0]) true),(.head 4 1,.row 5 [] true true),
  (.head 4 2,.row 8 [] true true),(.head 6 0,.box (.agg [.tree (List.map encB ac.snd.fst),.bool ac.snd.snd]) true),(.head 7 0,.box (.agg [.int .i64 a0.fst,.int .i64 a1.fst,.sref
  (.head 7 1) 0 0,.sref (.head 7 2) 0 0]) true),(.head 7 1,.row 5 [] true true),
  (.head 7 2,.row 8 [] true true)]) (by kernel_rfl) (fun(p:Int×List UInt8×Bool×List View)=>⟨[(0,.tree (b.map encB)),(1,.int .i64 size),(4,.ref (.head 4 0) 0 0),(6,.ref
  (.head 6 0) 0 0),(7,.ref (.head 7 0) 0 0),(8,.int .i64 p.1)],[(.head 4 0,.box (.agg [.int .i64 0,.int .i64 0,.sref (.head 4 1) 0 0,.sref (.head 4 2) 0 0]) true),
  (.head 4 1,.row 5 [] true true),(.head 4 2,.row 8 [] true true),(.head 6 0,.box (.agg [.tree (p.2.1.map encB),.bool p.2.2.1]) true),(.head 7 0,.box
  (.agg [.int .i64 a0.1,.int .i64 a1.1,.sref (.head 7 1) 0 p.2.2.2.length,.sref (.head 7 2) 0 0]) true),(.head 7 1,.row 5 (p.2.2.2.map encView) true true),
  (.head 7 2,.row 8 [] true true)]⟩) (fun p=>p.1≤1000000000000∧ -1000000000000≤p.1∧p.2.1.length≤5000∧p.2.2.2.length≤5001∧(p.2.2.1=false→p.2.1.length+p.2.2.2.length≤5000)∧(∀v∈p.2.2.2,SmV 5001 v)) (fun p=>p.2.1.length+(!p.2.2.1).toNat) (ac.1,ac.2.1,ac.2.2,[]) rfl ?_ ?_
 ·refine⟨by dsimp only;omega,by dsimp only;omega,by dsimp only;omega,by simp,fun h=> ?_,by simp⟩
  simp only[List.length_nil];omega
 ·rintro⟨n,B,bad,vs⟩ hI again
  obtain⟨i1,i2,i3,i4,i5,i6⟩:=hI
  simp only at i1 i2 i3 i4 i5 i6
  refine(.i (0<n) (fun a7=> .it a7 (.it a7 (.it a7 (.it a7 (.it a7 (.m bad (fun ay=>have bB:=(i5 ay);Exists.elim (@Tryz.c216 (B) (bad) (by omega))
   (fun a3 ⟨aR,av,aw,ax,bC⟩=> .c aR (Exists.elim (@Tryz.c216 (a3.snd.fst) (a3.snd.snd) (by omega))
   (fun a4 ⟨aS,aL,bD,bE,bF⟩=> .c aS (Exists.elim (@Tryz.c217 (a4.snd.fst) (a4.snd.snd) (by omega))
   (fun a2 ⟨aT,bG,bH,bI⟩=> .c aT (Exists.elim (@Tryz.c216 (a2.snd.fst) (a2.snd.snd) (by omega)) (fun ab ⟨aU,bJ,bK,bL,bM⟩=> .c aU ?_))))))))
   (fun ay=>Exists.elim (@Tryz.c216 (B) (bad) (by omega)) (fun ad ⟨aV,bN,bO,bP,bQ⟩=> .c aV
   (SatE.pJoinE (L:=loopD X.cfg (169:FuncId) Proofs.Tryz.f169 0 26) (St.mk [(0,.tree (List.map encB b)),(1,.int .i64 (↑size:Int)),(4,.ref (.head 4 0) 0 0),(6,.ref (.head 6 0) 0 0),(7,.ref
   (.head 7 0) 0 0),(13,.int .i64 ad.fst)] [(.head 4 0,.box (.agg [.int .i64 0,.int .i64 0,.sref (.head 4 1) 0 0,.sref (.head 4 2) 0 0]) true),(.head 4 1,.row 5 [] true true),
   (.head 4 2,.row 8 [] true true),(.head 6 0,.box (.agg [.tree (List.map encB ad.snd.fst),.bool ad.snd.snd]) true),(.head 7 0,.box (.agg [.int .i64 a0.fst,.int .i64 a1.fst,.sref
   (.head 7 1) 0 vs.length,.sref (.head 7 2) 0 0]) true),(.head 7 1,.row 5 (List.map encView vs) true true),
   (.head 7 2,.row 8 [] true true)]) (by kernel_rfl) rfl rfl (again_b (a0.fst) (a1.fst) (ad.fst) (ad.snd.fst) (ad.snd.snd) (vs) ‹_› ‹_› (by omega) ‹_› ‹_›)))))))))) (fun a7=> .iF a7
   (.iF a7 (.iF a7 (.iF a7 (.iF a7 (.F (Exists.elim (@Tryz.c216 (B) (bad) (by omega)) (fun ae ⟨aW,bR,bS,bT,bU⟩=> .c aW
   (SatE.pJoinE (L:=loopD X.cfg (169:FuncId) Proofs.Tryz.f169 0 26) (St.mk [(0,.tree (List.map encB b)),(1,.int .i64 (↑size:Int)),(4,.ref (.head 4 0) 0 0),(6,.ref (.head 6 0) 0 0),(7,.ref
   (.head 7 0) 0 0),(13,.int .i64 ae.fst)] [(.head 4 0,.box (.agg [.int .i64 0,.int .i64 0,.sref (.head 4 1) 0 0,.sref (.head 4 2) 0 0]) true),(.head 4 1,.row 5 [] true true),
   (.head 4 2,.row 8 [] true true),(.head 6 0,.box (.agg [.tree (List.map encB ae.snd.fst),.bool ae.snd.snd]) true),(.head 7 0,.box (.agg [.int .i64 a0.fst,.int .i64 a1.fst,.sref
   (.head 7 1) 0 vs.length,.sref (.head 7 2) 0 0]) true),(.head 7 1,.row 5 (List.map encView vs) true true),
   (.head 7 2,.row 8 [] true true)]) (by kernel_rfl) rfl rfl (again_b (a0.fst) (a1.fst) (ae.fst) (ae.snd.fst) (ae.snd.snd) (vs) ‹_› ‹_› (by omega) ‹_› ‹_›)))))))))))
  have hle:ab.2.1.length≤B.length:=by omega
  have hlt:ab.2.2=false→ab.2.1.length<B.length:=fun h=>by grind
  have hfi:a2.1.length≤5000:=by omega
  have again_e:∀(C:List UInt8) (bad2:Bool) (hs:List Head) (hC:C.length≤B.length) (hC2:bad2=false→C.length<B.length) (hhs:hs.length≤B.length),SatE X 169 (loopD X.cfg 169 Go.Proofs.Tryz.f169 0 21 ⟨[(0,.tree (b.map encB)),(1,.int .i64 size),(4,.ref (.head 4 0) 0 0),(6,.ref (.head 6 0) 0 0),(7,.ref (.head 7 0) 0 0),(8,.int .i64 n),(9,.ref (.head 9 0) 0 0),(12,.int .i64 0)],[(.head 4 0,.box (.agg [.int .i64 0,.int .i64 0,.sref (.head 4 1) 0 0,.sref (.head 4 2) 0 0]) true),(.head 4 1,.row 5 [] true true),(.head 4 2,.row 8 [] true true),(.head 6 0,.box (.agg [.tree (C.map encB),.bool bad2]) true),(.head 7 0,.box (.agg [.int .i64 a0.1,.int .i64 a1.1,.sref (.head 7 1) 0 vs.length,.sref (.head 7 2) 0 0]) true),(.head 7 1,.row 5 (vs.map encView) true true),(.head 7 2,.row 8 [] true true),(.head 9 0,.box (.agg [.int .i64 a3.1,.int .i64 a4.1,.str a2.1,.sref (.head 9 1) 0 hs.length,.sref (.head 9 2) 0 0]) true),(.head 9 1,.row 4 (hs.map encHead) true true),(.head 9 2,.row 1 [] true true)]⟩) (fun r=>∃p:Gossip×Bool,r=⟨.tuple [encGossip p.1,.bool p.2],[],[]⟩∧(p.2=true→p.1.may parse size=true)∧(p.2=true→IsGoss b p.1)):=by
   intro C bad2 hs hC hC2 hhs
   refine SatE.pLoop 21 (St.mk [(0,.tree (List.map encB b)),(1,.int .i64 (↑size:Int)),(4,.ref (.head 4 0) 0 0),(6,.ref (.head 6 0) 0 0),(7,.ref (.head 7 0) 0 0),(8,.int .i64 n),(9,.ref
    (.head 9 0) 0 0),(12,.int .i64 0)] [(.head 4 0,.box (.agg [.int .i64 0,.int .i64 0,.sref (.head 4 1) 0 0,.sref (.head 4 2) 0 0]) true),(.head 4 1,.row 5 [] true true),
    (.head 4 2,.row 8 [] true true),(.head 6 0,.box (.agg [.tree (List.map encB C),.bool bad2]) true),(.head 7 0,.box (.agg [.int .i64 a0.fst,.int .i64 a1.fst,.sref
    (.head 7 1) 0 vs.length,.sref (.head 7 2) 0 0]) true),(.head 7 1,.row 5 (List.map encView vs) true true),(.head 7 2,.row 8 [] true true),(.head 9 0,.box
    (.agg [.int .i64 a3.fst,.int .i64 a4.fst,.str a2.fst,.sref (.head 9 1) 0 hs.length,.sref (.head 9 2) 0 0]) true),(.head 9 1,.row 4 (List.map encHead hs) true true),
    (.head 9 2,.row 1 [] true true)]) (by kernel_rfl) (fun(p:Nat×List UInt8×Bool×List Int)=>⟨[(0,.tree (b.map encB)),(1,.int .i64 size),(4,.ref (.head 4 0) 0 0),(6,.ref
    (.head 6 0) 0 0),(7,.ref (.head 7 0) 0 0),(8,.int .i64 n),(9,.ref (.head 9 0) 0 0),(12,.int .i64 p.1)],[(.head 4 0,.box (.agg [.int .i64 0,.int .i64 0,.sref (.head 4 1) 0 0,.sref
    (.head 4 2) 0 0]) true),(.head 4 1,.row 5 [] true true),(.head 4 2,.row 8 [] true true),(.head 6 0,.box (.agg [.tree (p.2.1.map encB),.bool p.2.2.1]) true),(.head 7 0,.box
    (.agg [.int .i64 a0.1,.int .i64 a1.1,.sref (.head 7 1) 0 vs.length,.sref (.head 7 2) 0 0]) true),(.head 7 1,.row 5 (vs.map encView) true true),(.head 7 2,.row 8 [] true true),
    (.head 9 0,.box (.agg [.int .i64 a3.1,.int .i64 a4.1,.str a2.1,.sref (.head 9 1) 0 hs.length,.sref (.head 9 2) 0 p.2.2.2.length]) true),(.head 9 1,.row 4 (hs.map encHead) true true),
    (.head 9 2,.row 1 (p.2.2.2.map encI) true true)]⟩) (fun p=>p.1≤size∧p.2.1.length≤B.length∧(p.2.2.1=false→p.2.1.length<B.length)∧p.2.2.2.length≤p.1) (fun p=>size-p.1) (0,C,bad2,[]) rfl ?_ ?_
   ·exact⟨by omega,hC,hC2,by simp⟩
   ·rintro⟨k,C,bad2,es⟩ hJ again2
    obtain⟨j1,j2,j3,j4⟩:=hJ
    simp only at j1 j2 j3 j4
    refine(.k ((↑k:Int)<(↑size:Int)) (k<size) (by simp only[Int.ofNat_lt]) (fun a8=> .et ((↑k:Int)<(↑size:Int)) (by simp only[Int.ofNat_lt]) a8
     (.et ((↑k:Int)<(↑size:Int)) (by simp only[Int.ofNat_lt]) a8 (.et ((↑k:Int)<(↑size:Int)) (by simp only[Int.ofNat_lt]) a8
     (.et ((↑k:Int)<(↑size:Int)) (by simp only[Int.ofNat_lt]) a8 (.et ((↑k:Int)<(↑size:Int)) (by simp only[Int.ofNat_lt]) a8 (.m bad2
     (fun az=>have aX:=(j3 az);Exists.elim (@Tryz.c216 (C) (bad2) (by omega)) (fun af ⟨aY,bV,bW,aZ,b0⟩=> .c aY (.i ((es.length+1)*(8:Nat)≤140737488355328)
     (fun b1=> .k (es.length=(List.map encI es).length) (True) (by simp only[List.length_map])
     (fun aA=>have b2:=wI64' ((↑k:Int)+(1:Int)); .A (St.mk [(0,.tree (List.map encB b)),(1,.int .i64 (↑size:Int)),(4,.ref (.head 4 0) 0 0),(6,.ref (.head 6 0) 0 0),(7,.ref
     (.head 7 0) 0 0),(8,.int .i64 n),(9,.ref (.head 9 0) 0 0),(12,.int .i64 (IntKind.i64.wrap ((↑k:Int)+1)))] [(.head 4 0,.box (.agg [.int .i64 0,.int .i64 0,.sref (.head 4 1) 0 0,.sref
     (.head 4 2) 0 0]) true),(.head 4 1,.row 5 [] true true),(.head 4 2,.row 8 [] true true),(.head 6 0,.box (.agg [.tree (List.map encB af.snd.fst),.bool af.snd.snd]) true),(.head 7 0,.box
     (.agg [.int .i64 a0.fst,.int .i64 a1.fst,.sref (.head 7 1) 0 vs.length,.sref (.head 7 2) 0 0]) true),(.head 7 1,.row 5 (List.map encView vs) true true),(.head 7 2,.row 8 [] true true),
     (.head 9 0,.box (.agg [.int .i64 a3.fst,.int .i64 a4.fst,.str a2.fst,.sref (.head 9 1) 0 hs.length,.sref (.head 9 2) 0 (es.length+1)]) true),
     (.head 9 1,.row 4 (List.map encHead hs) true true),
     (.head 9 2,.row 1 (List.map encI es++[.int .i64 af.fst]) true true)]) (by simp[encI,b2]) (again2 ((k+(1:Nat),af.snd.fst,af.snd.snd,es++[af.fst])) ⟨(by dsimp only;omega),⟨(by dsimp only;omega),⟨(by dsimp only;omega),(by dsimp only;(clear again_b again again2;(simp;omega)))⟩⟩⟩ (by dsimp only;omega)))
     (fun aA=>(aA trivial).elim)) (fun b1=>False.elim (by omega))))) (fun az=> .i ((vs.length+1)*(80:Nat)≤140737488355328)
     (fun b3=> .k (vs.length=(List.map encView vs).length) (True) (by simp only[List.length_map])
     (fun aB=>have b4:=wI64' (n-(1:Int));have b5:List.take hs.length (List.map encHead hs)=List.map encHead hs:=List.take_of_length_le (by simp);have b6:List.take es.length (List.map encI es)=List.map encI es:=List.take_of_length_le (by simp); .A (St.mk [(0,.tree (List.map encB b)),(1,.int .i64 (↑size:Int)),(4,.ref
     (.head 4 0) 0 0),(6,.ref (.head 6 0) 0 0),(7,.ref (.head 7 0) 0 0),(8,.int .i64 (IntKind.i64.wrap (n-1)))] [(.head 4 0,.box (.agg [.int .i64 0,.int .i64 0,.sref (.head 4 1) 0 0,.sref
     (.head 4 2) 0 0]) true),(.head 4 1,.row 5 [] true true),(.head 4 2,.row 8 [] true true),(.head 6 0,.box (.agg [.tree (List.map encB C),.bool bad2]) true),(.head 7 0,.box
     (.agg [.int .i64 a0.fst,.int .i64 a1.fst,.sref (.head 7 1) 0 (vs.length+1),.sref (.head 7 2) 0 0]) true),
     (.head 7 1,.row 5 (List.map encView vs++[.agg [.int .i64 a3.fst,.int .i64 a4.fst,.str a2.fst,.tree (List.take hs.length (List.map encHead hs)),.tree (List.take es.length (List.map encI es))]]) true true),
     (.head 7 2,.row 8 [] true true)]) (by simp[encView,b6,b5,b4]) (again ((n-(1:Int),C,bad2,vs++[View.mk a3.fst a4.fst a2.fst hs es])) ⟨(by dsimp only;omega),⟨(by dsimp only;omega),⟨(by dsimp only;omega),⟨(by dsimp only;(clear again_b again again2;(simp;omega))),⟨(by dsimp only;(clear again_b again again2;grind)),(by dsimp only;(clear again_b again again2;(exact SmV.app i6 ⟨by simp only;omega,by simp only;omega,by simp only;omega⟩)))⟩⟩⟩⟩⟩ (by dsimp only;(clear again_b again again2;grind))))
     (fun aB=>(aB trivial).elim)) (fun b3=>False.elim (by omega))))))))) (fun a8=> .eF ((↑k:Int)<(↑size:Int)) (by simp only[Int.ofNat_lt]) a8
     (.eF ((↑k:Int)<(↑size:Int)) (by simp only[Int.ofNat_lt]) a8 (.eF ((↑k:Int)<(↑size:Int)) (by simp only[Int.ofNat_lt]) a8
     (.eF ((↑k:Int)<(↑size:Int)) (by simp only[Int.ofNat_lt]) a8 (.eF ((↑k:Int)<(↑size:Int)) (by simp only[Int.ofNat_lt]) a8 (.F (.i ((vs.length+1)*(80:Nat)≤140737488355328)
     (fun b7=> .k (vs.length=(List.map encView vs).length) (True) (by simp only[List.length_map])
     (fun aC=>have b8:=wI64' (n-(1:Int));have b9:List.take hs.length (List.map encHead hs)=List.map encHead hs:=List.take_of_length_le (by simp);have ba:List.take es.length (List.map encI es)=List.map encI es:=List.take_of_length_le (by simp); .A (St.mk [(0,.tree (List.map encB b)),(1,.int .i64 (↑size:Int)),(4,.ref
     (.head 4 0) 0 0),(6,.ref (.head 6 0) 0 0),(7,.ref (.head 7 0) 0 0),(8,.int .i64 (IntKind.i64.wrap (n-1)))] [(.head 4 0,.box (.agg [.int .i64 0,.int .i64 0,.sref (.head 4 1) 0 0,.sref
     (.head 4 2) 0 0]) true),(.head 4 1,.row 5 [] true true),(.head 4 2,.row 8 [] true true),(.head 6 0,.box (.agg [.tree (List.map encB C),.bool bad2]) true),(.head 7 0,.box
     (.agg [.int .i64 a0.fst,.int .i64 a1.fst,.sref (.head 7 1) 0 (vs.length+1),.sref (.head 7 2) 0 0]) true),
     (.head 7 1,.row 5 (List.map encView vs++[.agg [.int .i64 a3.fst,.int .i64 a4.fst,.str a2.fst,.tree (List.take hs.length (List.map encHead hs)),.tree (List.take es.length (List.map encI es))]]) true true),
     (.head 7 2,.row 8 [] true true)]) (by simp[encView,ba,b9,b8]) (again ((n-(1:Int),C,bad2,vs++[View.mk a3.fst a4.fst a2.fst hs es])) ⟨(by dsimp only;omega),⟨(by dsimp only;omega),⟨(by dsimp only;omega),⟨(by dsimp only;(clear again_b again again2;(simp;omega))),⟨(by dsimp only;(clear again_b again again2;grind)),(by dsimp only;(clear again_b again again2;(exact SmV.app i6 ⟨by simp only;omega,by simp only;omega,by simp only;omega⟩)))⟩⟩⟩⟩⟩ (by dsimp only;(clear again_b again again2;grind [Bool.toNat]))))
     (fun aC=>(aC trivial).elim)) (fun b7=>False.elim (by omega))))))))))
  refine SatE.pLoop 13 (St.mk [(0,.tree (List.map encB b)),(1,.int .i64 (↑size:Int)),(4,.ref (.head 4 0) 0 0),(6,.ref (.head 6 0) 0 0),(7,.ref (.head 7 0) 0 0),(8,.int .i64 n),(9,.ref
   (.head 9 0) 0 0),(10,.int .i64 ab.fst)] [(.head 4 0,.box (.agg [.int .i64 0,.int .i64 0,.sref (.head 4 1) 0 0,.sref (.head 4 2) 0 0]) true),(.head 4 1,.row 5 [] true true),
   (.head 4 2,.row 8 [] true true),(.head 6 0,.box (.agg [.tree (List.map encB ab.snd.fst),.bool ab.snd.snd]) true),(.head 7 0,.box (.agg [.int .i64 a0.fst,.int .i64 a1.fst,.sref
   (.head 7 1) 0 vs.length,.sref (.head 7 2) 0 0]) true),(.head 7 1,.row 5 (List.map encView vs) true true),(.head 7 2,.row 8 [] true true),(.head 9 0,.box
   (.agg [.int .i64 a3.fst,.int .i64 a4.fst,.str a2.fst,.sref (.head 9 1) 0 0,.sref (.head 9 2) 0 0]) true),(.head 9 1,.row 4 [] true true),
   (.head 9 2,.row 1 [] true true)]) (by kernel_rfl) (fun(p:Int×List UInt8×Bool×List Head)=>⟨[(0,.tree (b.map encB)),(1,.int .i64 size),(4,.ref (.head 4 0) 0 0),(6,.ref
   (.head 6 0) 0 0),(7,.ref (.head 7 0) 0 0),(8,.int .i64 n),(9,.ref (.head 9 0) 0 0),(10,.int .i64 p.1)],[(.head 4 0,.box (.agg [.int .i64 0,.int .i64 0,.sref (.head 4 1) 0 0,.sref
   (.head 4 2) 0 0]) true),(.head 4 1,.row 5 [] true true),(.head 4 2,.row 8 [] true true),(.head 6 0,.box (.agg [.tree (p.2.1.map encB),.bool p.2.2.1]) true),(.head 7 0,.box
   (.agg [.int .i64 a0.1,.int .i64 a1.1,.sref (.head 7 1) 0 vs.length,.sref (.head 7 2) 0 0]) true),(.head 7 1,.row 5 (vs.map encView) true true),(.head 7 2,.row 8 [] true true),
   (.head 9 0,.box (.agg [.int .i64 a3.1,.int .i64 a4.1,.str a2.1,.sref (.head 9 1) 0 p.2.2.2.length,.sref (.head 9 2) 0 0]) true),(.head 9 1,.row 4 (p.2.2.2.map encHead) true true),
   (.head 9 2,.row 1 [] true true)]⟩) (fun p=>p.1≤1000000000000∧ -1000000000000≤p.1∧p.2.1.length≤B.length∧(p.2.2.1=false→p.2.1.length+p.2.2.2.length<B.length)∧p.2.2.2.length≤B.length) (fun p=>p.2.1.length+(!p.2.2.1).toNat) (ab.1,ab.2.1,ab.2.2,[]) rfl ?_ ?_
  ·exact⟨by dsimp only;omega,by dsimp only;omega,hle,fun h=>by have:=hlt h;simpa using this,by simp⟩
  ·rintro⟨k,C,bad2,hs⟩ hJ again2
   obtain⟨j1,j2,j3,j4,j5⟩:=hJ
   simp only at j1 j2 j3 j4 j5
   refine(.i (0<k) (fun a9=> .it a9 (.it a9 (.it a9 (.it a9 (.it a9 (.m bad2 (fun aD=>have bX:=(j4 aD);Exists.elim (@Tryz.c216 (C) (bad2) (by omega))
    (fun aj ⟨bb,bY,aX,bZ,c0⟩=> .c bb (Exists.elim (@Tryz.c216 (aj.snd.fst) (aj.snd.snd) (by omega))
    (fun ak ⟨bc,aZ,b0,c1,c2⟩=> .c bc (Exists.elim (@Tryz.c216 (ak.snd.fst) (ak.snd.snd) (by omega))
    (fun am ⟨bd,c3,c4,c5,c6⟩=> .c bd (Exists.elim (@Tryz.c216 (am.snd.fst) (am.snd.snd) (by omega)) (fun ag ⟨be,c7,c8,c9,ca⟩=> .c be
    (.i ((hs.length+1)*(32:Nat)≤140737488355328) (fun bf=> .k (hs.length=(List.map encHead hs).length) (True) (by simp only[List.length_map])
    (fun aE=>have bg:=wI64' (k-(1:Int)); .A (St.mk [(0,.tree (List.map encB b)),(1,.int .i64 (↑size:Int)),(4,.ref (.head 4 0) 0 0),(6,.ref (.head 6 0) 0 0),(7,.ref
    (.head 7 0) 0 0),(8,.int .i64 n),(9,.ref (.head 9 0) 0 0),(10,.int .i64 (IntKind.i64.wrap (k-1)))] [(.head 4 0,.box (.agg [.int .i64 0,.int .i64 0,.sref (.head 4 1) 0 0,.sref
    (.head 4 2) 0 0]) true),(.head 4 1,.row 5 [] true true),(.head 4 2,.row 8 [] true true),(.head 6 0,.box (.agg [.tree (List.map encB ag.snd.fst),.bool ag.snd.snd]) true),(.head 7 0,.box
    (.agg [.int .i64 a0.fst,.int .i64 a1.fst,.sref (.head 7 1) 0 vs.length,.sref (.head 7 2) 0 0]) true),(.head 7 1,.row 5 (List.map encView vs) true true),(.head 7 2,.row 8 [] true true),
    (.head 9 0,.box (.agg [.int .i64 a3.fst,.int .i64 a4.fst,.str a2.fst,.sref (.head 9 1) 0 (hs.length+1),.sref (.head 9 2) 0 0]) true),
    (.head 9 1,.row 4 (List.map encHead hs++[.agg [.int .i64 aj.fst,.int .i64 ak.fst,.int .i64 am.fst,.int .i64 ag.fst]]) true true),
    (.head 9 2,.row 1 [] true true)]) (by simp[encHead,bg]) (again2 ((k-(1:Int),ag.snd.fst,ag.snd.snd,hs++[Head.mk aj.fst (Stamp.mk ak.fst am.fst ag.fst)])) ⟨(by dsimp only;omega),⟨(by dsimp only;omega),⟨(by dsimp only;omega),⟨(by dsimp only;(clear again_b again again_e again2;grind)),(by dsimp only;(clear again_b again again_e again2;(simp;omega)))⟩⟩⟩⟩ (by dsimp only;(clear again_b again again_e again2;grind [Bool.toNat]))))
    (fun aE=>(aE trivial).elim)) (fun bf=>False.elim (by omega)))))))))))
    (fun aD=>SatE.pJoinE (L:=loopD X.cfg (169:FuncId) Proofs.Tryz.f169 0 21) (St.mk [(0,.tree (List.map encB b)),(1,.int .i64 (↑size:Int)),(4,.ref (.head 4 0) 0 0),(6,.ref
    (.head 6 0) 0 0),(7,.ref (.head 7 0) 0 0),(8,.int .i64 n),(9,.ref (.head 9 0) 0 0),(12,.int .i64 0)] [(.head 4 0,.box (.agg [.int .i64 0,.int .i64 0,.sref (.head 4 1) 0 0,.sref
    (.head 4 2) 0 0]) true),(.head 4 1,.row 5 [] true true),(.head 4 2,.row 8 [] true true),(.head 6 0,.box (.agg [.tree (List.map encB C),.bool bad2]) true),(.head 7 0,.box
    (.agg [.int .i64 a0.fst,.int .i64 a1.fst,.sref (.head 7 1) 0 vs.length,.sref (.head 7 2) 0 0]) true),(.head 7 1,.row 5 (List.map encView vs) true true),(.head 7 2,.row 8 [] true true),
    (.head 9 0,.box (.agg [.int .i64 a3.fst,.int .i64 a4.fst,.str a2.fst,.sref (.head 9 1) 0 hs.length,.sref (.head 9 2) 0 0]) true),(.head 9 1,.row 4 (List.map encHead hs) true true),
    (.head 9 2,.row 1 [] true true)]) (by kernel_rfl) rfl rfl (again_e (C) (bad2) (hs) ‹_› (by(clear again_b again again_e again2;grind)) ‹_›)))))))) (fun a9=> .iF a9 (.iF a9 (.iF a9 (.iF a9
    (.iF a9 (.F (SatE.pJoinE (L:=loopD X.cfg (169:FuncId) Proofs.Tryz.f169 0 21) (St.mk [(0,.tree (List.map encB b)),(1,.int .i64 (↑size:Int)),(4,.ref (.head 4 0) 0 0),(6,.ref
    (.head 6 0) 0 0),(7,.ref (.head 7 0) 0 0),(8,.int .i64 n),(9,.ref (.head 9 0) 0 0),(12,.int .i64 0)] [(.head 4 0,.box (.agg [.int .i64 0,.int .i64 0,.sref (.head 4 1) 0 0,.sref
    (.head 4 2) 0 0]) true),(.head 4 1,.row 5 [] true true),(.head 4 2,.row 8 [] true true),(.head 6 0,.box (.agg [.tree (List.map encB C),.bool bad2]) true),(.head 7 0,.box
    (.agg [.int .i64 a0.fst,.int .i64 a1.fst,.sref (.head 7 1) 0 vs.length,.sref (.head 7 2) 0 0]) true),(.head 7 1,.row 5 (List.map encView vs) true true),(.head 7 2,.row 8 [] true true),
    (.head 9 0,.box (.agg [.int .i64 a3.fst,.int .i64 a4.fst,.str a2.fst,.sref (.head 9 1) 0 hs.length,.sref (.head 9 2) 0 0]) true),(.head 9 1,.row 4 (List.map encHead hs) true true),
    (.head 9 2,.row 1 [] true true)]) (by kernel_rfl) rfl rfl (again_e (C) (bad2) (hs) ‹_› (by(clear again_b again again_e again2;grind)) ‹_›)))))))))
end Go.Ab.Tryz
