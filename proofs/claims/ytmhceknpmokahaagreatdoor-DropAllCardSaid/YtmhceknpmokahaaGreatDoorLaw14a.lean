/- Package cardamomlaw14: what need not be held. -/
import Derived.Test.YtmhceknpmokahaaGreatDoorLaw14
import Derived.Test.YtmhceknpmokahaaGreatDoorPicks2
namespace Go.Ab.Tryz
open Go
set_option maxRecDepth 100000
set_option maxHeartbeats 4000000
structure Both14 (r:Repl) (v:Version):Prop where
 k:X.call 20 [encRepl r,encVersion v] [] ⟨.bool (r.known parse v),[],[]⟩∧X.call 21 [encRepl r,encVersion v] [] ⟨.bool (r.known parse v),[],[]⟩
 s:X.call 23 [encRepl r] [] ⟨encRepl (r.sweep parse),[],[]⟩∧X.call 24 [encRepl r] [] ⟨encRepl (r.sweep parse),[],[]⟩
 a:X.call 22 [encRepl (r.sweep parse),encRepl (r.sweep parse)] [] ⟨.bool true,[],[]⟩
 h:∀w∈r.Held,X.call 20 [encRepl r,encVersion w] [] ⟨.bool (r.known parse w),[],[]⟩∧X.call 21 [encRepl r,encVersion w] [] ⟨.bool (r.known parse w),[],[]⟩
 l:r.Held.length≤6
theorem both14 {size:Nat} {B:Int} {r:Repl} (h:r.Ok size B) (hB:B≤1000000) (hf:∀w∈r.Views,w.Fk) (v:Version) (ha:v.Attrs.length≤1000) (ht:v.Tag.length≤1000):Both14 r v:=
 ⟨⟨known_ex h (by omega) hf v ha ht,rknown_ex h v ha ht⟩,⟨sweep_ex h (by omega) hf,rsweep_ex h⟩,same_repl (Repl.Ok.swept h),fun w hw=>by
   have f:=Version.may_fit (h.hm.may w hw)
   have:=f.al;have:=f.tl
   exact⟨known_ex h (by omega) hf w (by omega) (by omega),rknown_ex h w (by omega) (by omega)⟩,h.hm.len⟩
theorem c3 (l k:List UInt8):X.call 3 [.tree (l.map encB),.tree (k.map encB)] [] ⟨.bool true,[],[]⟩:=by
 by_cases hl:l.length≤150∧k.length≤15
 ·obtain⟨hl,hk⟩:=hl
  obtain⟨r1,size1,cU,h1,f1⟩:=unswept_ex l hl
  obtain⟨r2,q,m,size2,cR,hm,hr,-⟩:=repl_ex ⟨l,0⟩ (by simp only;omega) 50 (by omega)
  have cV:=c19 ⟨k,0⟩ (by simp only;omega)
  have hvl:(Picks.mk k 0).version.1.Attrs.length≤3∧(Picks.mk k 0).version.1.Tag.length≤6:=by
   have f:=Version.may_fit (Picks.version_may ⟨k,0⟩)
   exact⟨f.al,f.tl⟩
  generalize (Picks.mk k 0).version=pv at*
  obtain⟨v,q2⟩:=pv
  simp only at cV hvl
  obtain⟨⟨k1,k2⟩,⟨s1,s2⟩,a1,hh1,l1⟩:=both14 h1 (by omega) f1 v (by omega) (by omega)
  obtain⟨⟨k3,k4⟩,⟨s3,s4⟩,a2,hh2,l2⟩:=both14 (hm.mem hr) (by omega) (hm.ri _ hr).fil v (by omega) (by omega)
  clear h1 hm hr f1
  generalize r1.sweep parse=x1 at*
  generalize r2.sweep parse=x2 at*
  generalize r1.known parse=y1 at*
  generalize r2.known parse=y2 at*
  refine spec_of ok Go.Proofs.Tryz.func3 ok3 ?_
  refine(.c (@Tryz.c15) (.F (.k (150<(↑(List.map encB l).length:Int)) (150<l.length) (by simp only[List.length_map,ciLt]) (fun a0=>False.elim (by omega))
   (fun a0=> .eF (150<(↑(List.map encB l).length:Int)) (by simp only[List.length_map,ciLt]) a0 (.eF (150<(↑(List.map encB l).length:Int)) (by simp only[List.length_map,ciLt]) a0
   (.eF (150<(↑(List.map encB l).length:Int)) (by simp only[List.length_map,ciLt]) a0 (.k (15<(↑(List.map encB k).length:Int)) (15<k.length) (by simp only[List.length_map,ciLt])
   (fun a4=>False.elim (by omega)) (fun a4=> .c (@cU) (.c (@Tryz.c17 (l)) (.c (@cR) (.c (@Tryz.c17 (k)) (.c (@cV) ?_))))))))))))
  refine Sat.pLoop 8 (St.mk [(5,.tree [encRepl r1,encRepl r2]),(6,.ref
   (.head 6 0) 0 0),(7,.int .i64 0)] [(.head 6 0,.box (encVersion v) true)]) (by kernel_rfl) (fun(i:Nat)=>⟨[(5,.tree [encRepl r1,encRepl r2]),(6,.ref
   (.head 6 0) 0 0),(7,.int .i64 i)],[(.head 6 0,.box (encVersion v) true)]⟩) (fun i=>i≤2) (fun i=>2-i) 0 rfl ?_ ?_
  ·omega
  ·intro i hi again
   rcases(by omega:i=0∨i=1∨i=2)with rfl|rfl|rfl
   ·obtain⟨⟨b1,b2⟩,hb⟩:(X.call 23 [encRepl r1] [] ⟨encRepl x1,[],[]⟩∧X.call 24 [encRepl r1] [] ⟨encRepl x1,[],[]⟩)∧True:=⟨⟨s1,s2⟩,trivial⟩
    refine(.T (.T (Sat.pElem ([encRepl r1,encRepl r2]) ((0:Nat)) (encRepl r1) (by kernel_rfl) rfl (.c (@k1) (.c (@k2) (.ev (y1 v=y1 v) (by simp only []) hb (.ev (y1 v=y1 v) (by simp only []) hb
     (.ev (y1 v=y1 v) (by simp only []) hb (.c (@s1) (.ev (y1 v=y1 v) (by simp only []) hb (.c (@s2) (.ev (y1 v=y1 v) (by simp only []) hb (.c (@a1) (.ev (y1 v=y1 v) (by simp only []) hb
     (.ev (y1 v=y1 v) (by simp only []) hb (.F ?_))))))))))))))))
    refine Sat.pLoop 14 (St.mk [(5,.tree [encRepl r1,encRepl r2]),(6,.ref (.head 6 0) 0 0),(7,.int .i64 0),(8,.ref (.head 8 0) 0 0),(9,.int .i64 0)] [(.head 6 0,.box (encVersion v) true),
     (.head 8 0,.box (encRepl r1) true)]) (by kernel_rfl) (fun(n:Nat)=>⟨[(5,.tree [encRepl r1,encRepl r2]),(6,.ref (.head 6 0) 0 0),(7,.int .i64 0),(8,.ref
     (.head 8 0) 0 0),(9,.int .i64 n)],[(.head 6 0,.box (encVersion v) true),(.head 8 0,.box (encRepl r1) true)]⟩) (fun n=>n≤r1.Held.length) (fun n=>r1.Held.length-n) 0 rfl ?_ ?_
    ·omega
    ·intro n hn again2
     by_cases hn2:n<r1.Held.length
     ·obtain⟨w,hw⟩:∃w,r1.Held[n]? =some w:=⟨r1.Held[n],by simp⟩
      obtain⟨c1,c2⟩:=hh1 w (List.mem_of_getElem? hw)
      refine(.el encVersion hn2 (.T (.eh encVersion hw (.T (.eh encVersion hw (.c (@c1) (.c (@c2) (.ev (y1 w=y1 w) (by simp only []) hb
       (have a3:=wI64' ((↑n:Int)+(1:Int)); .A (St.mk [(5,.tree [encRepl r1,encRepl r2]),(6,.ref (.head 6 0) 0 0),(7,.int .i64 0),(8,.ref
       (.head 8 0) 0 0),(9,.int .i64 (IntKind.i64.wrap ((↑n:Int)+1)))] [(.head 6 0,.box (encVersion v) true),
       (.head 8 0,.box (encRepl r1) true)]) (by simp[encVersion,encRepl,a3]) (again2 (n+(1:Nat)) (by omega) (by omega)))))))))))
     ·refine(.en encVersion hn2 (have a5:=wI64' ((0:Int)+(1:Int)); .a (again ((0:Nat)+(1:Nat)) ?_ ?_)))
      ·omega
      ·omega
   ·obtain⟨⟨b1,b2⟩,hb⟩:(X.call 23 [encRepl r2] [] ⟨encRepl x2,[],[]⟩∧X.call 24 [encRepl r2] [] ⟨encRepl x2,[],[]⟩)∧True:=⟨⟨s3,s4⟩,trivial⟩
    refine(.T (.T (Sat.pElem ([encRepl r1,encRepl r2]) ((1:Nat)) (encRepl r2) (by kernel_rfl) rfl (.c (@k3) (.c (@k4) (.ev (y2 v=y2 v) (by simp only []) hb (.ev (y2 v=y2 v) (by simp only []) hb
     (.ev (y2 v=y2 v) (by simp only []) hb (.c (@s3) (.ev (y2 v=y2 v) (by simp only []) hb (.c (@s4) (.ev (y2 v=y2 v) (by simp only []) hb (.c (@a2) (.ev (y2 v=y2 v) (by simp only []) hb
     (.ev (y2 v=y2 v) (by simp only []) hb (.F ?_))))))))))))))))
    refine Sat.pLoop 14 (St.mk [(5,.tree [encRepl r1,encRepl r2]),(6,.ref (.head 6 0) 0 0),(7,.int .i64 1),(8,.ref (.head 8 0) 0 0),(9,.int .i64 0)] [(.head 6 0,.box (encVersion v) true),
     (.head 8 0,.box (encRepl r2) true)]) (by kernel_rfl) (fun(n:Nat)=>⟨[(5,.tree [encRepl r1,encRepl r2]),(6,.ref (.head 6 0) 0 0),(7,.int .i64 1),(8,.ref
     (.head 8 0) 0 0),(9,.int .i64 n)],[(.head 6 0,.box (encVersion v) true),(.head 8 0,.box (encRepl r2) true)]⟩) (fun n=>n≤r2.Held.length) (fun n=>r2.Held.length-n) 0 rfl ?_ ?_
    ·omega
    ·intro n hn again2
     by_cases hn2:n<r2.Held.length
     ·obtain⟨w,hw⟩:∃w,r2.Held[n]? =some w:=⟨r2.Held[n],by simp⟩
      obtain⟨c1,c2⟩:=hh2 w (List.mem_of_getElem? hw)
      refine(.el encVersion hn2 (.T (.eh encVersion hw (.T (.eh encVersion hw (.c (@c1) (.c (@c2) (.ev (y2 w=y2 w) (by simp only []) hb
       (have a3:=wI64' ((↑n:Int)+(1:Int)); .A (St.mk [(5,.tree [encRepl r1,encRepl r2]),(6,.ref (.head 6 0) 0 0),(7,.int .i64 1),(8,.ref
       (.head 8 0) 0 0),(9,.int .i64 (IntKind.i64.wrap ((↑n:Int)+1)))] [(.head 6 0,.box (encVersion v) true),
       (.head 8 0,.box (encRepl r2) true)]) (by simp[encVersion,encRepl,a3]) (again2 (n+(1:Nat)) (by omega) (by omega)))))))))))
     ·refine(.en encVersion hn2 (have a5:=wI64' ((1:Int)+(1:Int)); .a (again ((1:Nat)+(1:Nat)) ?_ ?_)))
      ·omega
      ·omega
   ·refine(.F .r)
 ·refine spec_of ok Go.Proofs.Tryz.func3 ok3 ?_
  refine(.c (@Tryz.c15) (.F (.k (150<(↑(List.map encB l).length:Int)) (150<l.length) (by simp only[List.length_map,ciLt])
   (fun _h4=> .et (150<(↑(List.map encB l).length:Int)) (by simp only[List.length_map,ciLt]) _h4 (.et (150<(↑(List.map encB l).length:Int)) (by simp only[List.length_map,ciLt]) _h4
   (.et (150<(↑(List.map encB l).length:Int)) (by simp only[List.length_map,ciLt]) _h4 (.T .r)))) (fun _h4=> .eF (150<(↑(List.map encB l).length:Int)) (by simp only[List.length_map,ciLt]) _h4
   (.eF (150<(↑(List.map encB l).length:Int)) (by simp only[List.length_map,ciLt]) _h4 (.eF (150<(↑(List.map encB l).length:Int)) (by simp only[List.length_map,ciLt]) _h4
   (.k (15<(↑(List.map encB k).length:Int)) (15<k.length) (by simp only[List.length_map,ciLt]) (fun _h5=> .r) (fun _h5=>False.elim (by omega)))))))))
theorem law_DropAll (x0 x1:List UInt8) (_h0:(∀x∈x0,True)∧x0.length≤maxLen) (_h1:(∀x∈x1,True)∧x1.length≤maxLen):X.call 3 [.tree (x0.map encB),.tree (x1.map encB)] [] ⟨.bool true,[],[]⟩:=c3 x0 x1
end Go.Ab.Tryz
