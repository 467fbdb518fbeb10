/- Package cardamomlaw14: a replica behind a run, and what is said of it. -/
import Derived.Test.YtmhceknpmokahaaGreatDoorDrop1
import Derived.Test.YtmhceknpmokahaaGreatDoorRuns
import Derived.Test.YtmhceknpmokahaaGreatDoorRef25g
import Derived.Test.YtmhceknpmokahaaGreatDoorRef25l
namespace Go.Ab.Tryz
open Go
set_option maxRecDepth 100000
set_option maxHeartbeats 4000000
theorem unswept_ex (l:List UInt8) (hl:l.length≤150):∃(r:Repl) (size:Nat),X.call 16 [.tree (l.map encB)] [] ⟨encRepl r,[],[]⟩∧r.Ok size 1000∧(∀w∈r.Views,w.Fk):=by
 obtain⟨m0,p2,c2,o2,l2⟩:=mesh_ex ⟨l,0⟩ (by simp only;omega) 4 (by omega) (by omega)
 obtain⟨⟨m,p3⟩,c3,o3,l3⟩:=run_ex m0 o2 p2 l2 40 (by omega)
 simp only at c3 o3 l3
 obtain⟨size,h⟩:=o3
 obtain⟨m1,cA,h1⟩:=round_ex m size 40 _ h (by omega)
 obtain⟨m2,cB,h2⟩:=round_ex m1 size 40 _ h1 (by omega)
 obtain⟨ms,e0,e2,hstep⟩:∃ms:Nat→Mesh,ms 0=m∧((ms 2).Ok size 1000 40)∧∀i,i<2→(ms i).Repls.length=size∧((1<size∧X.call 62 [encMesh (ms i)] [] ⟨encMesh (ms (i+1)),[],[]⟩)∨(¬1<size∧ms (i+1)=ms i)):=by
  by_cases c:1<size
  ·refine⟨fun i=>if i=0 then m else if i=1 then m1 else m2,rfl,h2.mono (by omega) (by omega),fun i hi=> ?_⟩
   rcases(by omega:i=0∨i=1)with rfl|rfl
   ·exact⟨h.rl,.inl ⟨c,cA⟩⟩
   ·exact⟨h1.rl,.inl ⟨c,cB⟩⟩
  ·exact⟨fun _=>m,rfl,h.mono (by omega) (by omega),fun i _=>⟨h.rl,.inr ⟨c,rfl⟩⟩⟩
 have hrl:=e2.rl
 have hs1:=e2.s1
 have hs5:=e2.s5
 have hil:=e2.il
 obtain⟨i,p4,c4,i0,i1,l4⟩:=num_ex p3 l3 (ms 2).Repls.length (by omega) (by omega)
 obtain⟨r,hr⟩:∃r,(ms 2).Repls[i.toNat]? =some r:=⟨(ms 2).Repls[i.toNat]'(by omega),by simp⟩
 have cL:=c64 (ms 2) (by omega)
 have hmem:=List.mem_of_getElem? hr
 refine⟨{ r with Held:=lastM (ms 2).Issued },size, ?_,Repl.Ok.held (L:=r.L) (N:=r.N) (e2.mem hmem) (HeldOk.last e2.iv),(e2.ri r hmem).fil⟩
 clear h h1 h2 o2 cA cB e2 hmem
 subst e0
 refine spec_of ok Go.Proofs.Tryz.func16 ok16 ?_
 refine(.c (@Tryz.c17 (l)) (.c (@c2) (.c (@c3) ?_)))
 refine Sat.pLoop 4 (St.mk [(2,.ref (.head 2 0) 0 0),(3,.ref (.head 3 0) 0 0),(4,.ref (.head 4 0) 0 0),(5,.int .i64 0)] [(.head 2 0,.box
  (.agg [.int .i64 0,.int .i64 0,.int .i64 0,.int .i64 0,.int .i64 0,.nils,.nils]) true),(.head 3 0,.box (encPicks p3) true),
  (.head 4 0,.box (encMesh (ms 0)) true)]) (by kernel_rfl) (fun(i:Nat)=>⟨[(2,.ref (.head 2 0) 0 0),(3,.ref (.head 3 0) 0 0),(4,.ref (.head 4 0) 0 0),(5,.int .i64 i)],[(.head 2 0,.box
  (.agg [.int .i64 0,.int .i64 0,.int .i64 0,.int .i64 0,.int .i64 0,.nils,.nils]) true),(.head 3 0,.box (encPicks p3) true),
  (.head 4 0,.box (encMesh (ms i)) true)]⟩) (fun i=>i≤2) (fun i=>2-i) 0 rfl ?_ ?_
 ·omega
 ·intro j hj again
  by_cases hj2:j<2
  ·obtain⟨q1,q2⟩:=hstep j hj2
   rcases q2 with⟨q2,cR⟩|⟨q2,q3⟩
   ·clear hstep
    refine(.et ((↑j:Int)<2) (by simp only[icLt]) hj2 (.k (1<(↑(List.map encRepl (ms j).Repls).length:Int)) (1<(ms j).Repls.length) (by simp only[List.length_map,ciLt]) (fun a0=> .c (@cR)
     (have a1:=wI64' ((↑j:Int)+(1:Int)); .A (St.mk [(2,.ref (.head 2 0) 0 0),(3,.ref (.head 3 0) 0 0),(4,.ref
     (.head 4 0) 0 0),(5,.int .i64 (IntKind.i64.wrap ((↑j:Int)+1)))] [(.head 2 0,.box (.agg [.int .i64 0,.int .i64 0,.int .i64 0,.int .i64 0,.int .i64 0,.nils,.nils]) true),
     (.head 3 0,.box (encPicks p3) true),(.head 4 0,.box (encMesh (ms (j+1))) true)]) (by simp[encPicks,encMesh,a1]) (again (j+(1:Nat)) (by omega) (by omega))))
     (fun a0=>False.elim (by omega))))
   ·clear hstep
    refine(.et ((↑j:Int)<2) (by simp only[icLt]) hj2 (.k (1<(↑(List.map encRepl (ms j).Repls).length:Int)) (1<(ms j).Repls.length) (by simp only[List.length_map,ciLt])
     (fun a0=>False.elim (by omega)) (fun a0=>have a1:=wI64' ((↑j:Int)+(1:Int)); .A (St.mk [(2,.ref (.head 2 0) 0 0),(3,.ref (.head 3 0) 0 0),(4,.ref
     (.head 4 0) 0 0),(5,.int .i64 (IntKind.i64.wrap ((↑j:Int)+1)))] [(.head 2 0,.box (.agg [.int .i64 0,.int .i64 0,.int .i64 0,.int .i64 0,.int .i64 0,.nils,.nils]) true),
     (.head 3 0,.box (encPicks p3) true),
     (.head 4 0,.box (encMesh (ms j)) true)]) (by(clear c2 c4 cL c3 again;(rw[q3];simp[encMesh,encPicks, *];done))) (again (j+(1:Nat)) (by omega) (by omega)))))
  ·obtain rfl:j=2:=by omega
   clear hstep
   refine(.F (.b (.C ([.ref (.inc 0) 0 0,.int .i64 (↑(List.map encRepl (ms 2).Repls).length:Int)]) ([.box (encPicks p3) true]) (by simp) rfl (@c4) (.it i0 (.eh encRepl hr (.c (@cL) .r)))) (.C ([.ref
    (.inc 0) 0 0,.int .i64 (↑(List.map encRepl (ms 2).Repls).length:Int)]) ([.box (encPicks p3) true]) (by simp) rfl (@c4) (.it i0 (.eh encRepl hr (.c (@cL) .r))))))
theorem same_repl {size:Nat} {B:Int} {r:Repl} (h:r.Ok size B):X.call 22 [encRepl r,encRepl r] [] ⟨.bool true,[],[]⟩:=by
 have hvl:=h.vl
 have h5:=h.s5
 have hhl:=h.hm.len
 have c1:=c25 r.Views r.Views (by omega) (fun v hv=>by have:=(h.vs v hv).slen;have:=(h.vs v hv).elen;omega)
 have c2:=c36 r.Held r.Held (by omega) (fun v hv=>by have:=(Version.may_fit (h.hm.may v hv)).al;omega)
 rw[decide_eq_true rfl]at c1 c2
 clear h
 refine spec_of ok Go.Proofs.Tryz.func22 ok22 ?_
 refine(.k (r.ID=r.ID) (True) (by simp only []) (fun a0=> .et (r.ID=r.ID) (by simp only []) a0 (.et (r.ID=r.ID) (by simp only []) a0 (.et (r.ID=r.ID) (by simp only []) a0
  (.et (r.ID=r.ID) (by simp only []) a0 (.et (r.ID=r.ID) (by simp only []) a0 (.et (r.Size=r.Size) (by simp only []) a0 (.et (r.Size=r.Size) (by simp only []) a0
  (.et (r.Size=r.Size) (by simp only []) a0 (.et (r.Size=r.Size) (by simp only []) a0 (.et (r.Size=r.Size) (by simp only []) a0 (.et (r.Size=r.Size) (by simp only []) a0
  (.et (r.L=r.L) (by simp only []) a0 (.et (r.L=r.L) (by simp only []) a0 (.et (r.L=r.L) (by simp only []) a0 (.et (r.L=r.L) (by simp only []) a0 (.et (r.L=r.L) (by simp only []) a0
  (.et (r.L=r.L) (by simp only []) a0 (.et (r.N=r.N) (by simp only []) a0 (.et (r.N=r.N) (by simp only []) a0 (.et (r.N=r.N) (by simp only []) a0 (.et (r.N=r.N) (by simp only []) a0
  (.et (r.N=r.N) (by simp only []) a0 (.et (r.N=r.N) (by simp only []) a0 (.et (r.Quota=r.Quota) (by simp only []) a0 (.et (r.Quota=r.Quota) (by simp only []) a0
  (.et (r.Quota=r.Quota) (by simp only []) a0 (.et (r.Quota=r.Quota) (by simp only []) a0 (.et (r.Quota=r.Quota) (by simp only []) a0 (.c (@c2) (.et (r.Quota=r.Quota) (by simp only []) a0
  (.T (.T (.T (.T (.T (.c (@c1) (.T .r))))))))))))))))))))))))))))))))))))) (fun a0=>(a0 trivial).elim))
theorem Repl.Ok.swept {size:Nat} {B:Int} {r:Repl} (h:r.Ok size B):(r.sweep parse).Ok size B:=⟨h.i0,h.i1,h.s5,h.sz,h.vl,h.vr,h.vs,h.o1,h.hm.filter _⟩
theorem rknown_ex {size:Nat} {B:Int} {r:Repl} (h:r.Ok size B) (v:Version) (ha:v.Attrs.length≤1000) (ht:v.Tag.length≤1000):X.call 21 [encRepl r,encVersion v] [] ⟨.bool (r.known parse v),[],[]⟩:=by
 have hvl:=h.vl
 have h5:=h.s5
 have hsz:=h.sz
 exact c21 r v (by omega) (by omega) (by omega) (fun w hw=>by have:=(h.vs w hw).slen;have:=(h.vs w hw).f;omega) (by omega) (by omega)
theorem rsweep_ex {size:Nat} {B:Int} {r:Repl} (h:r.Ok size B):X.call 24 [encRepl r] [] ⟨encRepl (r.sweep parse),[],[]⟩:=by
 have hvl:=h.vl
 have h5:=h.s5
 have hsz:=h.sz
 have hhl:=h.hm.len
 exact c24 r (by omega) (by omega) (by omega) (fun w hw=>by have:=(h.vs w hw).slen;have:=(h.vs w hw).f;omega) (by have:(ownOf r.ID r.Views).Filter.length≤80:=h.own_ok.f;omega) (by omega) (fun v hv=>by have f:=Version.may_fit (h.hm.may v hv);have:=f.al;have:=f.tl;omega)
theorem c15:X.call 15 [] [] ⟨.bool true,[],[]⟩:=evT_ok Tryz.envOk (by kernel_rfl)
end Go.Ab.Tryz
