/- Package cardamomref11: what one tells another, what is taken, as plain Lean. -/
import Derived.Test.YtmhceknpmokahaaGreatDoorRef11d
import Derived.Test.YtmhceknpmokahaaGreatDoorRef1f
namespace Go.Ab.Tryz
open Go
set_option maxRecDepth 100000
set_option maxHeartbeats 4000000
theorem c41 (r:Repl) (to batch:Int) (hl:r.Views.length≤1000) (h0:r.Size≤r.Views.length) (hw:∀w∈r.Views,w.Seen.length≤100000) (hh:r.Held.length≤1000) (hr:∃w∈r.Views,0<w.Rev):∃p:Gossip×Bool,X.call 41 [encRepl r,.int .i64 to,.int .i64 batch] [] ⟨.tuple [encGossip p.1,.bool p.2],[],[]⟩∧(p.2=true→p.1.From=r.ID∧p.1.To=to∧1≤to∧to≤r.Size∧to≠r.ID)∧(∀w∈p.1.Views,w∈r.Views)∧p.1.Views.length≤r.Views.length∧(∀v∈p.1.Batch,v∈r.Held)∧p.1.Batch.length≤4:=by
 refine spec_ex ok Go.Proofs.Tryz.func41 ok41 ?_
 refine(.i (to<1) (fun _h9=> .it _h9 (.it _h9 (.it _h9 (.it _h9 (.T (.T (.T (.T (.T (.T (.T (.T (.T (.T (.T (.T
  (.r (Gossip.mk 0 0 [] [],false) ⟨(by dsimp only;simp),⟨(by dsimp only;(intro w hw;cases hw)),⟨(by show(0:Nat)≤r.Views.length;omega),⟨(by dsimp only;(intro w hw;cases hw)),(by dsimp only;trivial)⟩⟩⟩⟩)))))))))))))))))
  (fun _h9=> .iF _h9 (.iF _h9 (.iF _h9 (.iF _h9 (.i (r.Size<to) (fun a7=> .it a7 (.it a7 (.it a7 (.it a7 (.T (.T (.T (.T (.T (.T (.T
  (.r (Gossip.mk 0 0 [] [],false) ⟨(by dsimp only;simp),⟨(by dsimp only;(intro w hw;cases hw)),⟨(by show(0:Nat)≤r.Views.length;omega),⟨(by dsimp only;(intro w hw;cases hw)),(by dsimp only;trivial)⟩⟩⟩⟩))))))))))))
  (fun a7=> .iF a7 (.iF a7 (.iF a7 (.iF a7 (.i (to=r.ID) (fun ae=> .it ae (.it ae (.T (.T (.T (.T
  (.r (Gossip.mk 0 0 [] [],false) ⟨(by dsimp only;simp),⟨(by dsimp only;(intro w hw;cases hw)),⟨(by show(0:Nat)≤r.Views.length;omega),⟨(by dsimp only;(intro w hw;cases hw)),(by dsimp only;trivial)⟩⟩⟩⟩)))))))
  (fun ae=> .iF ae (.iF ae (.i (batch<1) (fun af=> .it af (.it af (.T
  (.r (Gossip.mk 0 0 [] [],false) ⟨(by dsimp only;simp),⟨(by dsimp only;(intro w hw;cases hw)),⟨(by show(0:Nat)≤r.Views.length;omega),⟨(by dsimp only;(intro w hw;cases hw)),(by dsimp only;trivial)⟩⟩⟩⟩))))
  (fun af=> .iF af (.iF af (.i (4<batch)
  (fun aq=> .r (Gossip.mk 0 0 [] [],false) ⟨(by dsimp only;simp),⟨(by dsimp only;(intro w hw;cases hw)),⟨(by show(0:Nat)≤r.Views.length;omega),⟨(by dsimp only;(intro w hw;cases hw)),(by dsimp only;trivial)⟩⟩⟩⟩)
  (fun aq=> ?_))))))))))))))))))
 refine SatE.pLoop 5 (St.mk [(1,.int .i64 to),(2,.int .i64 batch),(3,.ref (.head 3 0) 0 0),(6,.ref (.head 6 0) 0 0),(8,.ref
  (.head 8 0) 0 0),(9,.int .i64 0)] [(.head 3 0,.box (encRepl r) true),(.head 6 0,.box (.agg [.int .i64 0,.int .i64 0,.nils,.nils]) true),(.head 8 0,.box
  (.agg [.int .i64 r.ID,.int .i64 to,.nils,.nils]) true)]) (by kernel_rfl) (fun(i:Nat)=>⟨[(1,.int .i64 to),(2,.int .i64 batch),(3,.ref (.head 3 0) 0 0),(6,.ref (.head 6 0) 0 0),(8,.ref
  (.head 8 0) 0 0),(9,.int .i64 i)],[(.head 3 0,.box (encRepl r) true),(.head 6 0,.box (.agg [.int .i64 0,.int .i64 0,.nils,.nils]) true),(.head 8 0,.box
  (.agg [.int .i64 r.ID,.int .i64 to,.nils,.nils]) true)]⟩) (fun i=>i≤r.Views.length∧∀w∈r.Views.take i,¬0<w.Rev) (fun i=>r.Views.length-i) 0 rfl ?_ ?_
 ·simp
 ·intro i hI again
  have hi:=hI.1
  have hn:=hI.2
  clear hI
  refine(.kl encView r.Views i (fun ar=> .T (.em encView r.Views i ‹_› (fun ag aj=>have b1:=(hw ag (List.mem_of_getElem? aj)); .i (0<ag.Rev) (fun au=> .T (.eh encView aj
   (.T (have b2:=wI64' ((↑i:Int)+(1:Int)); ?_)))) (fun au=>have av:=wI64' ((↑i:Int)+(1:Int)); .A (St.mk [(1,.int .i64 to),(2,.int .i64 batch),(3,.ref
   (.head 3 0) 0 0),(6,.ref (.head 6 0) 0 0),(8,.ref (.head 8 0) 0 0),(9,.int .i64 (IntKind.i64.wrap ((↑i:Int)+1)))] [(.head 3 0,.box (encRepl r) true),(.head 6 0,.box
   (.agg [.int .i64 0,.int .i64 0,.nils,.nils]) true),(.head 8 0,.box
   (.agg [.int .i64 r.ID,.int .i64 to,.nils,.nils]) true)]) (by simp[encRepl,av]) (again (i+(1:Nat)) ⟨(by omega),(by(clear again;(intro x hx;rw[take_succ ‹_›]at hx;rcases List.mem_append.1 hx with h|h;exact hn x h;simp only[List.mem_singleton]at h;subst h;omega)))⟩ (by omega))))))
   (fun ar=>have am:=wI64' (to-(1:Int)); .k (0≤IntKind.i64.wrap (to-1)) (0≤to-1) (by simp only[am])
   (fun aw=> .eM encView r.Views ((IntKind.i64.wrap (to-1)).toNat) ((to-1).toNat) (by simp only[am]) (by omega) (fun ax ay=>have b3:=(hw ax (List.mem_of_getElem? ay)); ?_))
   (fun aw=>False.elim (by omega))))
  ·refine SatE.pLoop 5 (St.mk [(1,.int .i64 to),(2,.int .i64 batch),(3,.ref (.head 3 0) 0 0),(6,.ref (.head 6 0) 0 0),(8,.ref
    (.head 8 0) 0 0),(9,.int .i64 (IntKind.i64.wrap ((↑i:Int)+1)))] [(.head 3 0,.box (encRepl r) true),(.head 6 0,.box (.agg [.int .i64 0,.int .i64 0,.nils,.nils]) true),(.head 8 0,.box
    (.agg [.int .i64 r.ID,.int .i64 to,.sref (.head 8 1) 0 1,.nils]) true),
    (.head 8 1,.row 5 [encView ag] true true)]) (by kernel_rfl) (fun(p:Nat×List View)=>⟨[(1,.int .i64 to),(2,.int .i64 batch),(3,.ref (.head 3 0) 0 0),(6,.ref (.head 6 0) 0 0),(8,.ref
    (.head 8 0) 0 0),(9,.int .i64 p.1)],[(.head 3 0,.box (encRepl r) true),(.head 6 0,.box (.agg [.int .i64 0,.int .i64 0,.nils,.nils]) true),(.head 8 0,.box
    (.agg [.int .i64 r.ID,.int .i64 to,.sref (.head 8 1) 0 p.2.length,.nils]) true),
    (.head 8 1,.row 5 (p.2.map encView) true true)]⟩) (fun p=>p.1≤r.Views.length∧(∀w∈p.2,w∈r.Views)∧p.2.length≤p.1) (fun p=>r.Views.length-p.1) (i+1,[ag]) (by(simp[encView,encRepl, *];done)) ?_ ?_
   ·exact⟨by dsimp only;omega,by intro w h;simp only[List.mem_singleton]at h;subst h;exact List.mem_of_getElem? aj,by simp⟩
   ·rintro⟨j,vs⟩ hJ again2
    obtain⟨j1,j2,j3⟩:=hJ
    simp only at j1 j2 j3
    refine(.kl encView r.Views j (fun az=> .T (.em encView r.Views j ‹_› (fun ah an=>have b4:=(hw ah (List.mem_of_getElem? an)); .i (0<ah.Rev) (fun aA=> .T (.eh encView an
     (.i ((vs.length+1)*(80:Nat)≤140737488355328) (fun aB=> .k (vs.length=(List.map encView vs).length) (True) (by simp only[List.length_map])
     (fun ai=>have aC:=wI64' ((↑j:Int)+(1:Int)); .A (St.mk [(1,.int .i64 to),(2,.int .i64 batch),(3,.ref (.head 3 0) 0 0),(6,.ref (.head 6 0) 0 0),(8,.ref
     (.head 8 0) 0 0),(9,.int .i64 (IntKind.i64.wrap ((↑j:Int)+1)))] [(.head 3 0,.box (encRepl r) true),(.head 6 0,.box (.agg [.int .i64 0,.int .i64 0,.nils,.nils]) true),(.head 8 0,.box
     (.agg [.int .i64 r.ID,.int .i64 to,.sref (.head 8 1) 0 (vs.length+1),.nils]) true),
     (.head 8 1,.row 5 (List.map encView vs++[encView ah]) true true)]) (by simp[encRepl,aC]) (again2 ((j+(1:Nat),vs++[ah])) ⟨(by dsimp only;omega),⟨(by dsimp only;(clear again again2;(intro w h;rcases List.mem_append.1 h with h|h;exact j2 w h;simp only[List.mem_singleton]at h;subst h;exact List.mem_of_getElem? ‹_›))),(by dsimp only;(clear again again2;(simp;omega)))⟩⟩ (by dsimp only;omega)))
     (fun ai=>(ai trivial).elim)) (fun aB=>False.elim (by omega))))) (fun aA=>have aD:=wI64' ((↑j:Int)+(1:Int)); .A (St.mk [(1,.int .i64 to),(2,.int .i64 batch),(3,.ref
     (.head 3 0) 0 0),(6,.ref (.head 6 0) 0 0),(8,.ref (.head 8 0) 0 0),(9,.int .i64 (IntKind.i64.wrap ((↑j:Int)+1)))] [(.head 3 0,.box (encRepl r) true),(.head 6 0,.box
     (.agg [.int .i64 0,.int .i64 0,.nils,.nils]) true),(.head 8 0,.box (.agg [.int .i64 r.ID,.int .i64 to,.sref (.head 8 1) 0 vs.length,.nils]) true),
     (.head 8 1,.row 5 (List.map encView vs) true true)]) (by simp[encRepl,aD]) (again2 ((j+(1:Nat),vs)) ⟨(by dsimp only;omega),⟨(by dsimp only;omega),(by dsimp only;omega)⟩⟩ (by dsimp only;omega))))))
     (fun az=>have ao:=wI64' (to-(1:Int)); .k (0≤IntKind.i64.wrap (to-1)) (0≤to-1) (by simp only[ao])
     (fun aE=> .eM encView r.Views ((IntKind.i64.wrap (to-1)).toNat) ((to-1).toNat) (by simp only[ao]) (by omega) (fun a0 aF=>have b5:=(hw a0 (List.mem_of_getElem? aF)); ?_))
     (fun aE=>False.elim (by omega))))
    refine SatE.pUnroll 11 (St.mk [(2,.int .i64 batch),(3,.ref (.head 3 0) 0 0),(6,.ref (.head 6 0) 0 0),(8,.ref (.head 8 0) 0 0),(10,.tree (List.map encHead a0.Seen)),(11,.ref
     (.head 11 0) 0 0)] [(.head 3 0,.box (encRepl r) true),(.head 6 0,.box (.agg [.int .i64 0,.int .i64 0,.nils,.nils]) true),(.head 8 0,.box (.agg [.int .i64 r.ID,.int .i64 to,.sref
     (.head 8 1) 0 vs.length,.nils]) true),(.head 8 1,.row 5 (List.map encView vs) true true),(.head 11 0,.box (.agg [.int .i64 0,.int .i64 0,.int .i64 0]) true)]) (by kernel_rfl) ?_
    refine(.i (0<batch) (fun ai=> ?_) (fun ai=>False.elim (by omega)))
    refine SatE.pLoop 14 (St.mk [(2,.int .i64 batch),(3,.ref (.head 3 0) 0 0),(6,.ref (.head 6 0) 0 0),(8,.ref (.head 8 0) 0 0),(10,.tree (List.map encHead a0.Seen)),(11,.ref
     (.head 11 0) 0 0),(12,.ref (.head 12 0) 0 0),(13,.bool false),(14,.int .i64 0)] [(.head 3 0,.box (encRepl r) true),(.head 6 0,.box (.agg [.int .i64 0,.int .i64 0,.nils,.nils]) true),
     (.head 8 0,.box (.agg [.int .i64 r.ID,.int .i64 to,.sref (.head 8 1) 0 vs.length,.nils]) true),(.head 8 1,.row 5 (List.map encView vs) true true),(.head 11 0,.box
     (.agg [.int .i64 0,.int .i64 0,.int .i64 0]) true),(.head 12 0,.box
     (.agg [.int .i64 0,.int .i64 0,.int .i64 0,.int .i64 0,.bool false,.nils,.str [],.str []]) true)]) (by kernel_rfl) (fun(k:Nat)=>⟨[(2,.int .i64 batch),(3,.ref (.head 3 0) 0 0),(6,.ref
     (.head 6 0) 0 0),(8,.ref (.head 8 0) 0 0),(10,.tree (a0.Seen.map encHead)),(11,.ref (.head 11 0) 0 0),(12,.ref
     (.head 12 0) 0 0),(13,.bool false),(14,.int .i64 k)],[(.head 3 0,.box (encRepl r) true),(.head 6 0,.box (.agg [.int .i64 0,.int .i64 0,.nils,.nils]) true),(.head 8 0,.box
     (.agg [.int .i64 r.ID,.int .i64 to,.sref (.head 8 1) 0 vs.length,.nils]) true),(.head 8 1,.row 5 (vs.map encView) true true),(.head 11 0,.box
     (.agg [.int .i64 0,.int .i64 0,.int .i64 0]) true),(.head 12 0,.box
     (.agg [.int .i64 0,.int .i64 0,.int .i64 0,.int .i64 0,.bool false,.nils,.str [],.str []]) true)]⟩) (fun k=>k≤r.Held.length) (fun k=>r.Held.length-k) 0 rfl ?_ ?_
    ·simp
    ·intro k hk againA
     refine(.kl encVersion r.Held k (fun aG=> .T (.em encVersion r.Held k ‹_› (fun a8 b6=> .c (@Tryz.c29 (a0.Seen) (a8.Item) ‹_›) (.c (@Tryz.c28 (a8.S) (headAt a0.Seen a8.Item))
      (.i (0<a8.S.cmp (headAt a0.Seen a8.Item)) (fun a3=> .it a3 (.it a3 (.it a3 (.c (@Tryz.c28 (a8.S) (Stamp.mk (0:Int) (0:Int) (0:Int))) (.it a3 (.it a3
      (.i (0<a8.S.cmp (Stamp.mk 0 0 0)) (fun a9=> .it a9 (.it a9 (.T (.T (.T (.T (.T (.T (.it a9 (.T (.it a9 (.T (have b7:=wI64' ((↑k:Int)+(1:Int)); ?_)))))))))))))
      (fun a9=> .iF a9 (.iF a9 (.iF a9 (.iF a9 (.F (have aH:=wI64' ((↑k:Int)+(1:Int)); .A (St.mk [(2,.int .i64 batch),(3,.ref (.head 3 0) 0 0),(6,.ref (.head 6 0) 0 0),(8,.ref
      (.head 8 0) 0 0),(10,.tree (List.map encHead a0.Seen)),(11,.ref (.head 11 0) 0 0),(12,.ref
      (.head 12 0) 0 0),(13,.bool false),(14,.int .i64 (IntKind.i64.wrap ((↑k:Int)+1)))] [(.head 3 0,.box (encRepl r) true),(.head 6 0,.box (.agg [.int .i64 0,.int .i64 0,.nils,.nils]) true),
      (.head 8 0,.box (.agg [.int .i64 r.ID,.int .i64 to,.sref (.head 8 1) 0 vs.length,.nils]) true),(.head 8 1,.row 5 (List.map encView vs) true true),(.head 11 0,.box
      (.agg [.int .i64 0,.int .i64 0,.int .i64 0]) true),(.head 12 0,.box
      (.agg [.int .i64 0,.int .i64 0,.int .i64 0,.int .i64 0,.bool false,.nils,.str [],.str []]) true)]) (by simp[encRepl,aH]) (againA (k+(1:Nat)) (by omega) (by omega)))))))))))))))
      (fun a3=> .iF a3 (.iF a3 (.iF a3 (.iF a3 (.iF a3 (.F (.F (.F (.F (.F (.F (have aI:=wI64' ((↑k:Int)+(1:Int)); .A (St.mk [(2,.int .i64 batch),(3,.ref (.head 3 0) 0 0),(6,.ref
      (.head 6 0) 0 0),(8,.ref (.head 8 0) 0 0),(10,.tree (List.map encHead a0.Seen)),(11,.ref (.head 11 0) 0 0),(12,.ref
      (.head 12 0) 0 0),(13,.bool false),(14,.int .i64 (IntKind.i64.wrap ((↑k:Int)+1)))] [(.head 3 0,.box (encRepl r) true),(.head 6 0,.box (.agg [.int .i64 0,.int .i64 0,.nils,.nils]) true),
      (.head 8 0,.box (.agg [.int .i64 r.ID,.int .i64 to,.sref (.head 8 1) 0 vs.length,.nils]) true),(.head 8 1,.row 5 (List.map encView vs) true true),(.head 11 0,.box
      (.agg [.int .i64 0,.int .i64 0,.int .i64 0]) true),(.head 12 0,.box
      (.agg [.int .i64 0,.int .i64 0,.int .i64 0,.int .i64 0,.bool false,.nils,.str [],.str []]) true)]) (by simp[encRepl,aI]) (againA (k+(1:Nat)) (by omega) (by omega)))))))))))))))))))
      (fun aG=> .T
      (have aJ:List.take vs.length (List.map encView vs)=List.map encView vs:=List.take_of_length_le (by simp); .q (Res.mk (AV.tuple [.agg [.int .i64 r.ID,.int .i64 to,.tree (List.take vs.length (List.map encView vs)),.tree []],.bool true]) [] []) ⟨(Gossip.mk r.ID to vs [],Bool.true),(by simp[encGossip,aJ]),⟨(by dsimp only;omega),⟨(by dsimp only;(clear again again2 againA;trivial)),⟨(by dsimp only;omega),⟨(by dsimp only;simp),(by dsimp only;(clear again again2 againA;trivial))⟩⟩⟩⟩⟩)))
     refine SatE.pLoop 14 (St.mk [(2,.int .i64 batch),(3,.ref (.head 3 0) 0 0),(6,.ref (.head 6 0) 0 0),(8,.ref (.head 8 0) 0 0),(10,.tree (List.map encHead a0.Seen)),(11,.ref
      (.head 11 0) 0 0),(12,.ref (.head 12 0) 0 0),(13,.bool true),(14,.int .i64 (IntKind.i64.wrap ((↑k:Int)+1)))] [(.head 3 0,.box (encRepl r) true),(.head 6 0,.box
      (.agg [.int .i64 0,.int .i64 0,.nils,.nils]) true),(.head 8 0,.box (.agg [.int .i64 r.ID,.int .i64 to,.sref (.head 8 1) 0 vs.length,.nils]) true),
      (.head 8 1,.row 5 (List.map encView vs) true true),(.head 11 0,.box (.agg [.int .i64 0,.int .i64 0,.int .i64 0]) true),
      (.head 12 0,.box (encVersion a8) true)]) (by kernel_rfl) (fun(p:Nat×Version)=>⟨[(2,.int .i64 batch),(3,.ref (.head 3 0) 0 0),(6,.ref (.head 6 0) 0 0),(8,.ref
      (.head 8 0) 0 0),(10,.tree (a0.Seen.map encHead)),(11,.ref (.head 11 0) 0 0),(12,.ref (.head 12 0) 0 0),(13,.bool true),(14,.int .i64 p.1)],[(.head 3 0,.box (encRepl r) true),
      (.head 6 0,.box (.agg [.int .i64 0,.int .i64 0,.nils,.nils]) true),(.head 8 0,.box (.agg [.int .i64 r.ID,.int .i64 to,.sref (.head 8 1) 0 vs.length,.nils]) true),
      (.head 8 1,.row 5 (vs.map encView) true true),(.head 11 0,.box (.agg [.int .i64 0,.int .i64 0,.int .i64 0]) true),
      (.head 12 0,.box (encVersion p.2) true)]⟩) (fun p=>p.1≤r.Held.length∧p.2∈r.Held) (fun p=>r.Held.length-p.1) (k+1,a8) (by(simp[encVersion,encRepl, *];done)) ?_ ?_
     ·exact⟨by dsimp only;omega,List.mem_of_getElem? (by assumption)⟩
     ·rintro⟨m,best⟩ hM againB
      obtain⟨m1,m2⟩:=hM
      simp only at m1 m2
      refine(.kl encVersion r.Held m (fun aK=> .T (.em encVersion r.Held m ‹_› (fun a1 b8=> .c (@Tryz.c29 (a0.Seen) (a1.Item) ‹_›) (.c (@Tryz.c28 (a1.S) (headAt a0.Seen a1.Item))
       (.i (0<a1.S.cmp (headAt a0.Seen a1.Item)) (fun a4=> .it a4 (.it a4 (.it a4 (.c (@Tryz.c28 (a1.S) (Stamp.mk (0:Int) (0:Int) (0:Int))) (.it a4 (.it a4
       (.i (0<a1.S.cmp (Stamp.mk 0 0 0)) (fun aa=> .it aa (.it aa (.F (.F (.F (.F (.F (.c (@Tryz.c28 (a1.S) (best.S)) (.F (.it aa (.F (.it aa (.i (a1.S.cmp best.S<0)
       (fun aL=>have aM:=wI64' ((↑m:Int)+(1:Int)); .A (St.mk [(2,.int .i64 batch),(3,.ref (.head 3 0) 0 0),(6,.ref (.head 6 0) 0 0),(8,.ref
       (.head 8 0) 0 0),(10,.tree (List.map encHead a0.Seen)),(11,.ref (.head 11 0) 0 0),(12,.ref
       (.head 12 0) 0 0),(13,.bool true),(14,.int .i64 (IntKind.i64.wrap ((↑m:Int)+1)))] [(.head 3 0,.box (encRepl r) true),(.head 6 0,.box (.agg [.int .i64 0,.int .i64 0,.nils,.nils]) true),
       (.head 8 0,.box (.agg [.int .i64 r.ID,.int .i64 to,.sref (.head 8 1) 0 vs.length,.nils]) true),(.head 8 1,.row 5 (List.map encView vs) true true),(.head 11 0,.box
       (.agg [.int .i64 0,.int .i64 0,.int .i64 0]) true),
       (.head 12 0,.box (encVersion a1) true)]) (by simp[encVersion,encRepl,aM]) (againB ((m+(1:Nat),Version.mk a1.Item (Stamp.mk a1.2.L a1.2.R a1.2.N) a1.Dead a1.Attrs a1.Tag a1.Body)) ⟨(by dsimp only;omega),(by dsimp only;(clear again again2 againA againB;(exact List.mem_of_getElem? ‹_›)))⟩ (by dsimp only;omega)))
       (fun aL=>have aN:=wI64' ((↑m:Int)+(1:Int)); .A (St.mk [(2,.int .i64 batch),(3,.ref (.head 3 0) 0 0),(6,.ref (.head 6 0) 0 0),(8,.ref
       (.head 8 0) 0 0),(10,.tree (List.map encHead a0.Seen)),(11,.ref (.head 11 0) 0 0),(12,.ref
       (.head 12 0) 0 0),(13,.bool true),(14,.int .i64 (IntKind.i64.wrap ((↑m:Int)+1)))] [(.head 3 0,.box (encRepl r) true),(.head 6 0,.box (.agg [.int .i64 0,.int .i64 0,.nils,.nils]) true),
       (.head 8 0,.box (.agg [.int .i64 r.ID,.int .i64 to,.sref (.head 8 1) 0 vs.length,.nils]) true),(.head 8 1,.row 5 (List.map encView vs) true true),(.head 11 0,.box
       (.agg [.int .i64 0,.int .i64 0,.int .i64 0]) true),
       (.head 12 0,.box (encVersion best) true)]) (by simp[encVersion,encRepl,aN]) (againB ((m+(1:Nat),Version.mk best.Item (Stamp.mk best.2.L best.2.R best.2.N) best.Dead best.Attrs best.Tag best.Body)) ⟨(by dsimp only;omega),(by dsimp only;omega)⟩ (by dsimp only;omega))))))))))))))))
       (fun aa=> .iF aa (.iF aa (.iF aa (.iF aa (.F (have ak:=wI64' ((↑m:Int)+(1:Int)); .A (St.mk [(2,.int .i64 batch),(3,.ref (.head 3 0) 0 0),(6,.ref (.head 6 0) 0 0),(8,.ref
       (.head 8 0) 0 0),(10,.tree (List.map encHead a0.Seen)),(11,.ref (.head 11 0) 0 0),(12,.ref
       (.head 12 0) 0 0),(13,.bool true),(14,.int .i64 (IntKind.i64.wrap ((↑m:Int)+1)))] [(.head 3 0,.box (encRepl r) true),(.head 6 0,.box (.agg [.int .i64 0,.int .i64 0,.nils,.nils]) true),
       (.head 8 0,.box (.agg [.int .i64 r.ID,.int .i64 to,.sref (.head 8 1) 0 vs.length,.nils]) true),(.head 8 1,.row 5 (List.map encView vs) true true),(.head 11 0,.box
       (.agg [.int .i64 0,.int .i64 0,.int .i64 0]) true),
       (.head 12 0,.box (encVersion best) true)]) (by simp[encVersion,encRepl,ak]) (againB ((m+(1:Nat),Version.mk best.Item (Stamp.mk best.2.L best.2.R best.2.N) best.Dead best.Attrs best.Tag best.Body)) ⟨(by dsimp only;omega),(by dsimp only;omega)⟩ (by dsimp only;omega)))))))))))))))
       (fun a4=> .iF a4 (.iF a4 (.iF a4 (.iF a4 (.iF a4 (.F (.F (.F (.F (.F (.F (have al:=wI64' ((↑m:Int)+(1:Int)); .A (St.mk [(2,.int .i64 batch),(3,.ref (.head 3 0) 0 0),(6,.ref
       (.head 6 0) 0 0),(8,.ref (.head 8 0) 0 0),(10,.tree (List.map encHead a0.Seen)),(11,.ref (.head 11 0) 0 0),(12,.ref
       (.head 12 0) 0 0),(13,.bool true),(14,.int .i64 (IntKind.i64.wrap ((↑m:Int)+1)))] [(.head 3 0,.box (encRepl r) true),(.head 6 0,.box (.agg [.int .i64 0,.int .i64 0,.nils,.nils]) true),
       (.head 8 0,.box (.agg [.int .i64 r.ID,.int .i64 to,.sref (.head 8 1) 0 vs.length,.nils]) true),(.head 8 1,.row 5 (List.map encView vs) true true),(.head 11 0,.box
       (.agg [.int .i64 0,.int .i64 0,.int .i64 0]) true),
       (.head 12 0,.box (encVersion best) true)]) (by simp[encVersion,encRepl,al]) (againB ((m+(1:Nat),Version.mk best.Item (Stamp.mk best.2.L best.2.R best.2.N) best.Dead best.Attrs best.Tag best.Body)) ⟨(by dsimp only;omega),(by dsimp only;omega)⟩ (by dsimp only;omega)))))))))))))))))))
       (fun aK=> .F (.T ?_)))
      refine SatE.pLoop 11 (St.mk [(2,.int .i64 batch),(3,.ref (.head 3 0) 0 0),(6,.ref (.head 6 0) 0 0),(8,.ref (.head 8 0) 0 0),(10,.tree (List.map encHead a0.Seen)),(11,.ref
       (.head 11 0) 0 0)] [(.head 3 0,.box (encRepl r) true),(.head 6 0,.box (.agg [.int .i64 0,.int .i64 0,.nils,.nils]) true),(.head 8 0,.box (.agg [.int .i64 r.ID,.int .i64 to,.sref
       (.head 8 1) 0 vs.length,.sref (.head 8 2) 0 1]) true),(.head 8 1,.row 5 (List.map encView vs) true true),(.head 8 2,.row 8 [encVersion best] true true),
       (.head 11 0,.box (encStamp best.S) true)]) (by kernel_rfl) (fun(p:List Version×Stamp)=>⟨[(2,.int .i64 batch),(3,.ref (.head 3 0) 0 0),(6,.ref (.head 6 0) 0 0),(8,.ref
       (.head 8 0) 0 0),(10,.tree (a0.Seen.map encHead)),(11,.ref (.head 11 0) 0 0)],[(.head 3 0,.box (encRepl r) true),(.head 6 0,.box (.agg [.int .i64 0,.int .i64 0,.nils,.nils]) true),
       (.head 8 0,.box (.agg [.int .i64 r.ID,.int .i64 to,.sref (.head 8 1) 0 vs.length,.sref (.head 8 2) 0 p.1.length]) true),(.head 8 1,.row 5 (vs.map encView) true true),
       (.head 8 2,.row 8 (p.1.map encVersion) true true),(.head 11 0,.box (encStamp p.2) true)]⟩) (fun p=>p.1.length≤4∧∀v∈p.1,v∈r.Held) (fun p=>4-p.1.length) ([best],best.S) rfl ?_ ?_
      ·exact⟨by simp,by intro w h;simp only[List.mem_singleton]at h;subst h;assumption⟩
      ·rintro⟨bs,last⟩ hQ againC
       obtain⟨q1,q2⟩:=hQ
       simp only at q1 q2
       refine(.i ((↑bs.length:Int)<batch) (fun aO=> ?_)
        (fun aO=>have ak:List.take vs.length (List.map encView vs)=List.map encView vs:=List.take_of_length_le (by simp);have al:List.take bs.length (List.map encVersion bs)=List.map encVersion bs:=List.take_of_length_le (by simp); .q (Res.mk (AV.tuple [.agg [.int .i64 r.ID,.int .i64 to,.tree (List.take vs.length (List.map encView vs)),.tree (List.take bs.length (List.map encVersion bs))],.bool true]) [] []) ⟨(Gossip.mk r.ID to vs bs,Bool.true),(by simp[encGossip,al,ak]),⟨(by dsimp only;omega),⟨(by dsimp only;(clear again again2 againA againB againC;trivial)),⟨(by dsimp only;omega),⟨(by dsimp only;(clear again again2 againA againB againC;trivial)),(by dsimp only;(clear again again2 againA againB againC;trivial))⟩⟩⟩⟩⟩))
       refine SatE.pLoop 14 (St.mk [(2,.int .i64 batch),(3,.ref (.head 3 0) 0 0),(6,.ref (.head 6 0) 0 0),(8,.ref (.head 8 0) 0 0),(10,.tree (List.map encHead a0.Seen)),(11,.ref
        (.head 11 0) 0 0),(12,.ref (.head 12 0) 0 0),(13,.bool false),(14,.int .i64 0)] [(.head 3 0,.box (encRepl r) true),(.head 6 0,.box (.agg [.int .i64 0,.int .i64 0,.nils,.nils]) true),
        (.head 8 0,.box (.agg [.int .i64 r.ID,.int .i64 to,.sref (.head 8 1) 0 vs.length,.sref (.head 8 2) 0 bs.length]) true),(.head 8 1,.row 5 (List.map encView vs) true true),
        (.head 8 2,.row 8 (List.map encVersion bs) true true),(.head 11 0,.box (encStamp last) true),(.head 12 0,.box
        (.agg [.int .i64 0,.int .i64 0,.int .i64 0,.int .i64 0,.bool false,.nils,.str [],.str []]) true)]) (by kernel_rfl) (fun(k:Nat)=>⟨[(2,.int .i64 batch),(3,.ref (.head 3 0) 0 0),(6,.ref
        (.head 6 0) 0 0),(8,.ref (.head 8 0) 0 0),(10,.tree (a0.Seen.map encHead)),(11,.ref (.head 11 0) 0 0),(12,.ref
        (.head 12 0) 0 0),(13,.bool false),(14,.int .i64 k)],[(.head 3 0,.box (encRepl r) true),(.head 6 0,.box (.agg [.int .i64 0,.int .i64 0,.nils,.nils]) true),(.head 8 0,.box
        (.agg [.int .i64 r.ID,.int .i64 to,.sref (.head 8 1) 0 vs.length,.sref (.head 8 2) 0 bs.length]) true),(.head 8 1,.row 5 (vs.map encView) true true),
        (.head 8 2,.row 8 (bs.map encVersion) true true),(.head 11 0,.box (encStamp last) true),(.head 12 0,.box
        (.agg [.int .i64 0,.int .i64 0,.int .i64 0,.int .i64 0,.bool false,.nils,.str [],.str []]) true)]⟩) (fun k=>k≤r.Held.length) (fun k=>r.Held.length-k) 0 rfl ?_ ?_
       ·simp
       ·intro k hk againA
        refine(.kl encVersion r.Held k (fun aP=> .T (.em encVersion r.Held k ‹_› (fun ab b9=> .c (@Tryz.c29 (a0.Seen) (ab.Item) ‹_›) (.c (@Tryz.c28 (ab.S) (headAt a0.Seen ab.Item))
         (.i (0<ab.S.cmp (headAt a0.Seen ab.Item)) (fun a5=> .it a5 (.it a5 (.it a5 (.c (@Tryz.c28 (ab.S) (last)) (.it a5 (.it a5 (.i (0<ab.S.cmp last) (fun ac=> .it ac (.it ac
         (.T (.T (.T (.T (.T (.T (.it ac (.T (.it ac (.T (have ba:=wI64' ((↑k:Int)+(1:Int)); ?_))))))))))))) (fun ac=> .iF ac (.iF ac (.iF ac (.iF ac (.F
         (have aQ:=wI64' ((↑k:Int)+(1:Int)); .A (St.mk [(2,.int .i64 batch),(3,.ref (.head 3 0) 0 0),(6,.ref (.head 6 0) 0 0),(8,.ref
         (.head 8 0) 0 0),(10,.tree (List.map encHead a0.Seen)),(11,.ref (.head 11 0) 0 0),(12,.ref
         (.head 12 0) 0 0),(13,.bool false),(14,.int .i64 (IntKind.i64.wrap ((↑k:Int)+1)))] [(.head 3 0,.box (encRepl r) true),(.head 6 0,.box (.agg [.int .i64 0,.int .i64 0,.nils,.nils]) true),
         (.head 8 0,.box (.agg [.int .i64 r.ID,.int .i64 to,.sref (.head 8 1) 0 vs.length,.sref (.head 8 2) 0 bs.length]) true),(.head 8 1,.row 5 (List.map encView vs) true true),
         (.head 8 2,.row 8 (List.map encVersion bs) true true),(.head 11 0,.box (encStamp last) true),(.head 12 0,.box
         (.agg [.int .i64 0,.int .i64 0,.int .i64 0,.int .i64 0,.bool false,.nils,.str [],.str []]) true)]) (by simp[encStamp,encRepl,aQ]) (againA (k+(1:Nat)) (by omega) (by omega)))))))))))))))
         (fun a5=> .iF a5 (.iF a5 (.iF a5 (.iF a5 (.iF a5 (.F (.F (.F (.F (.F (.F (have aR:=wI64' ((↑k:Int)+(1:Int)); .A (St.mk [(2,.int .i64 batch),(3,.ref (.head 3 0) 0 0),(6,.ref
         (.head 6 0) 0 0),(8,.ref (.head 8 0) 0 0),(10,.tree (List.map encHead a0.Seen)),(11,.ref (.head 11 0) 0 0),(12,.ref
         (.head 12 0) 0 0),(13,.bool false),(14,.int .i64 (IntKind.i64.wrap ((↑k:Int)+1)))] [(.head 3 0,.box (encRepl r) true),(.head 6 0,.box (.agg [.int .i64 0,.int .i64 0,.nils,.nils]) true),
         (.head 8 0,.box (.agg [.int .i64 r.ID,.int .i64 to,.sref (.head 8 1) 0 vs.length,.sref (.head 8 2) 0 bs.length]) true),(.head 8 1,.row 5 (List.map encView vs) true true),
         (.head 8 2,.row 8 (List.map encVersion bs) true true),(.head 11 0,.box (encStamp last) true),(.head 12 0,.box
         (.agg [.int .i64 0,.int .i64 0,.int .i64 0,.int .i64 0,.bool false,.nils,.str [],.str []]) true)]) (by simp[encStamp,encRepl,aR]) (againA (k+(1:Nat)) (by omega) (by omega)))))))))))))))))))
         (fun aP=> .T
         (have aS:List.take vs.length (List.map encView vs)=List.map encView vs:=List.take_of_length_le (by simp);have aT:List.take bs.length (List.map encVersion bs)=List.map encVersion bs:=List.take_of_length_le (by simp); .q (Res.mk (AV.tuple [.agg [.int .i64 r.ID,.int .i64 to,.tree (List.take vs.length (List.map encView vs)),.tree (List.take bs.length (List.map encVersion bs))],.bool true]) [] []) ⟨(Gossip.mk r.ID to vs bs,Bool.true),(by simp[encGossip,aT,aS]),⟨(by dsimp only;omega),⟨(by dsimp only;(clear again again2 againA againB againC;trivial)),⟨(by dsimp only;omega),⟨(by dsimp only;(clear again again2 againA againB againC;trivial)),(by dsimp only;(clear again again2 againA againB againC;trivial))⟩⟩⟩⟩⟩)))
        refine SatE.pLoop 14 (St.mk [(2,.int .i64 batch),(3,.ref (.head 3 0) 0 0),(6,.ref (.head 6 0) 0 0),(8,.ref (.head 8 0) 0 0),(10,.tree (List.map encHead a0.Seen)),(11,.ref
         (.head 11 0) 0 0),(12,.ref (.head 12 0) 0 0),(13,.bool true),(14,.int .i64 (IntKind.i64.wrap ((↑k:Int)+1)))] [(.head 3 0,.box (encRepl r) true),(.head 6 0,.box
         (.agg [.int .i64 0,.int .i64 0,.nils,.nils]) true),(.head 8 0,.box (.agg [.int .i64 r.ID,.int .i64 to,.sref (.head 8 1) 0 vs.length,.sref (.head 8 2) 0 bs.length]) true),
         (.head 8 1,.row 5 (List.map encView vs) true true),(.head 8 2,.row 8 (List.map encVersion bs) true true),(.head 11 0,.box (encStamp last) true),
         (.head 12 0,.box (encVersion ab) true)]) (by kernel_rfl) (fun(p:Nat×Version)=>⟨[(2,.int .i64 batch),(3,.ref (.head 3 0) 0 0),(6,.ref (.head 6 0) 0 0),(8,.ref
         (.head 8 0) 0 0),(10,.tree (a0.Seen.map encHead)),(11,.ref (.head 11 0) 0 0),(12,.ref (.head 12 0) 0 0),(13,.bool true),(14,.int .i64 p.1)],[(.head 3 0,.box (encRepl r) true),
         (.head 6 0,.box (.agg [.int .i64 0,.int .i64 0,.nils,.nils]) true),(.head 8 0,.box (.agg [.int .i64 r.ID,.int .i64 to,.sref (.head 8 1) 0 vs.length,.sref (.head 8 2) 0 bs.length]) true),
         (.head 8 1,.row 5 (vs.map encView) true true),(.head 8 2,.row 8 (bs.map encVersion) true true),(.head 11 0,.box (encStamp last) true),
         (.head 12 0,.box (encVersion p.2) true)]⟩) (fun p=>p.1≤r.Held.length∧p.2∈r.Held) (fun p=>r.Held.length-p.1) (k+1,ab) (by(simp[encVersion,encRepl,encStamp, *];done)) ?_ ?_
        ·exact⟨by dsimp only;omega,List.mem_of_getElem? (by assumption)⟩
        ·rintro⟨m,best⟩ hM againB
         obtain⟨m1,m2⟩:=hM
         simp only at m1 m2
         refine(.kl encVersion r.Held m (fun aU=> .T (.em encVersion r.Held m ‹_› (fun a2 bb=> .c (@Tryz.c29 (a0.Seen) (a2.Item) ‹_›) (.c (@Tryz.c28 (a2.S) (headAt a0.Seen a2.Item))
          (.i (0<a2.S.cmp (headAt a0.Seen a2.Item)) (fun a6=> .it a6 (.it a6 (.it a6 (.c (@Tryz.c28 (a2.S) (last)) (.it a6 (.it a6 (.i (0<a2.S.cmp last) (fun ad=> .it ad (.it ad
          (.F (.F (.F (.F (.F (.c (@Tryz.c28 (a2.S) (best.S)) (.F (.it ad (.F (.it ad (.i (a2.S.cmp best.S<0)
          (fun aV=>have aW:=wI64' ((↑m:Int)+(1:Int)); .A (St.mk [(2,.int .i64 batch),(3,.ref (.head 3 0) 0 0),(6,.ref (.head 6 0) 0 0),(8,.ref
          (.head 8 0) 0 0),(10,.tree (List.map encHead a0.Seen)),(11,.ref (.head 11 0) 0 0),(12,.ref
          (.head 12 0) 0 0),(13,.bool true),(14,.int .i64 (IntKind.i64.wrap ((↑m:Int)+1)))] [(.head 3 0,.box (encRepl r) true),(.head 6 0,.box (.agg [.int .i64 0,.int .i64 0,.nils,.nils]) true),
          (.head 8 0,.box (.agg [.int .i64 r.ID,.int .i64 to,.sref (.head 8 1) 0 vs.length,.sref (.head 8 2) 0 bs.length]) true),(.head 8 1,.row 5 (List.map encView vs) true true),
          (.head 8 2,.row 8 (List.map encVersion bs) true true),(.head 11 0,.box (encStamp last) true),
          (.head 12 0,.box (encVersion a2) true)]) (by simp[encStamp,encVersion,encRepl,aW]) (againB ((m+(1:Nat),Version.mk a2.Item (Stamp.mk a2.2.L a2.2.R a2.2.N) a2.Dead a2.Attrs a2.Tag a2.Body)) ⟨(by dsimp only;omega),(by dsimp only;(clear again again2 againA againB againC;(exact List.mem_of_getElem? ‹_›)))⟩ (by dsimp only;omega)))
          (fun aV=>have aX:=wI64' ((↑m:Int)+(1:Int)); .A (St.mk [(2,.int .i64 batch),(3,.ref (.head 3 0) 0 0),(6,.ref (.head 6 0) 0 0),(8,.ref
          (.head 8 0) 0 0),(10,.tree (List.map encHead a0.Seen)),(11,.ref (.head 11 0) 0 0),(12,.ref
          (.head 12 0) 0 0),(13,.bool true),(14,.int .i64 (IntKind.i64.wrap ((↑m:Int)+1)))] [(.head 3 0,.box (encRepl r) true),(.head 6 0,.box (.agg [.int .i64 0,.int .i64 0,.nils,.nils]) true),
          (.head 8 0,.box (.agg [.int .i64 r.ID,.int .i64 to,.sref (.head 8 1) 0 vs.length,.sref (.head 8 2) 0 bs.length]) true),(.head 8 1,.row 5 (List.map encView vs) true true),
          (.head 8 2,.row 8 (List.map encVersion bs) true true),(.head 11 0,.box (encStamp last) true),
          (.head 12 0,.box (encVersion best) true)]) (by simp[encStamp,encVersion,encRepl,aX]) (againB ((m+(1:Nat),Version.mk best.Item (Stamp.mk best.2.L best.2.R best.2.N) best.Dead best.Attrs best.Tag best.Body)) ⟨(by dsimp only;omega),(by dsimp only;omega)⟩ (by dsimp only;omega))))))))))))))))
          (fun ad=> .iF ad (.iF ad (.iF ad (.iF ad (.F (have aY:=wI64' ((↑m:Int)+(1:Int)); .A (St.mk [(2,.int .i64 batch),(3,.ref (.head 3 0) 0 0),(6,.ref (.head 6 0) 0 0),(8,.ref
          (.head 8 0) 0 0),(10,.tree (List.map encHead a0.Seen)),(11,.ref (.head 11 0) 0 0),(12,.ref
          (.head 12 0) 0 0),(13,.bool true),(14,.int .i64 (IntKind.i64.wrap ((↑m:Int)+1)))] [(.head 3 0,.box (encRepl r) true),(.head 6 0,.box (.agg [.int .i64 0,.int .i64 0,.nils,.nils]) true),
          (.head 8 0,.box (.agg [.int .i64 r.ID,.int .i64 to,.sref (.head 8 1) 0 vs.length,.sref (.head 8 2) 0 bs.length]) true),(.head 8 1,.row 5 (List.map encView vs) true true),
          (.head 8 2,.row 8 (List.map encVersion bs) true true),(.head 11 0,.box (encStamp last) true),
          (.head 12 0,.box (encVersion best) true)]) (by simp[encStamp,encVersion,encRepl,aY]) (againB ((m+(1:Nat),Version.mk best.Item (Stamp.mk best.2.L best.2.R best.2.N) best.Dead best.Attrs best.Tag best.Body)) ⟨(by dsimp only;omega),(by dsimp only;omega)⟩ (by dsimp only;omega)))))))))))))))
          (fun a6=> .iF a6 (.iF a6 (.iF a6 (.iF a6 (.iF a6 (.F (.F (.F (.F (.F (.F (have aZ:=wI64' ((↑m:Int)+(1:Int)); .A (St.mk [(2,.int .i64 batch),(3,.ref (.head 3 0) 0 0),(6,.ref
          (.head 6 0) 0 0),(8,.ref (.head 8 0) 0 0),(10,.tree (List.map encHead a0.Seen)),(11,.ref (.head 11 0) 0 0),(12,.ref
          (.head 12 0) 0 0),(13,.bool true),(14,.int .i64 (IntKind.i64.wrap ((↑m:Int)+1)))] [(.head 3 0,.box (encRepl r) true),(.head 6 0,.box (.agg [.int .i64 0,.int .i64 0,.nils,.nils]) true),
          (.head 8 0,.box (.agg [.int .i64 r.ID,.int .i64 to,.sref (.head 8 1) 0 vs.length,.sref (.head 8 2) 0 bs.length]) true),(.head 8 1,.row 5 (List.map encView vs) true true),
          (.head 8 2,.row 8 (List.map encVersion bs) true true),(.head 11 0,.box (encStamp last) true),
          (.head 12 0,.box (encVersion best) true)]) (by simp[encStamp,encVersion,encRepl,aZ]) (againB ((m+(1:Nat),Version.mk best.Item (Stamp.mk best.2.L best.2.R best.2.N) best.Dead best.Attrs best.Tag best.Body)) ⟨(by dsimp only;omega),(by dsimp only;omega)⟩ (by dsimp only;omega)))))))))))))))))))
          (fun aU=> .F (.i ((bs.length+1)*(96:Nat)≤140737488355328) (fun b0=> .k (bs.length=(List.map encVersion bs).length) (True) (by simp only[List.length_map])
          (fun ap=> .A (St.mk [(2,.int .i64 batch),(3,.ref (.head 3 0) 0 0),(6,.ref (.head 6 0) 0 0),(8,.ref (.head 8 0) 0 0),(10,.tree (List.map encHead a0.Seen)),(11,.ref
          (.head 11 0) 0 0)] [(.head 3 0,.box (encRepl r) true),(.head 6 0,.box (.agg [.int .i64 0,.int .i64 0,.nils,.nils]) true),(.head 8 0,.box (.agg [.int .i64 r.ID,.int .i64 to,.sref
          (.head 8 1) 0 vs.length,.sref (.head 8 2) 0 (bs.length+1)]) true),(.head 8 1,.row 5 (List.map encView vs) true true),(.head 8 2,.row 8 (List.map encVersion bs++[encVersion best]) true true),
          (.head 11 0,.box (encStamp best.S) true)]) (by simp[encStamp,encRepl]) (againC ((bs++[best],Stamp.mk best.2.L best.2.R best.2.N)) ⟨(by dsimp only;(clear again again2 againA againB againC;(simp;omega))),(by dsimp only;(clear again again2 againA againB againC;(intro w h;rcases List.mem_append.1 h with h|h;exact q2 w h;simp only[List.mem_singleton]at h;subst h;assumption)))⟩ (by dsimp only;(clear again again2 againA againB againC;(simp;omega)))))
          (fun ap=>(ap trivial).elim)) (fun b0=>False.elim (by omega)))))
  ·exfalso
   obtain⟨w,hw1,hw2⟩:=hr
   exact hn w (by rw[List.take_of_length_le (by omega)];exact hw1) hw2
end Go.Ab.Tryz
