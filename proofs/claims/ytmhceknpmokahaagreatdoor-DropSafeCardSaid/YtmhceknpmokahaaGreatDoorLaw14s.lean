/- Package cardamomlaw14: what goes is in custody, all are known to have seen it. -/
import Derived.Test.YtmhceknpmokahaaGreatDoorLaw14
namespace Go.Ab.Tryz
open Go
set_option maxRecDepth 100000
set_option maxHeartbeats 4000000
theorem filter_pos {T:Type} {p:T→Bool} :∀ {l:List T} {i:Nat} {x:T},l[i]? =some x→p x=true→(l.filter p)[((l.take i).filter p).length]? =some x
 |y::l,0,x,h,hp=>by
  simp only[List.getElem?_cons_zero,Option.some.injEq]at h
  subst h
  simp[hp]
 |y::l,i+1,x,h,hp=>by
  simp only[List.getElem?_cons_succ]at h
  have ih:=filter_pos h hp
  by_cases c:p y=true
  ·simp only[List.take_succ_cons,List.filter_cons_of_pos c,List.length_cons,List.getElem?_cons_succ];exact ih
  ·simp only[List.take_succ_cons,List.filter_cons_of_neg c];exact ih
theorem c4 (l:List UInt8):X.call 4 [.tree (l.map encB)] [] ⟨.bool true,[],[]⟩:=by
 by_cases hl:l.length≤150
 ·obtain⟨r,size,cU,h,hf⟩:=unswept_ex l hl
  have hvl:=h.vl
  have h5:=h.s5
  have hsz:=h.sz
  have hhl:=h.hm.len
  have cS:=sweep_ex h (by omega) hf
  have cV:=c25 r.Views r.Views (by omega) (fun v hv=>by have:=(h.vs v hv).slen;have:=(h.vs v hv).elen;omega)
  rw[decide_eq_true rfl]at cV
  have hfit:∀v∈r.Held,v.Attrs.length≤1000∧v.Tag.length≤1000:=fun v hv=>by
   have f:=Version.may_fit (h.hm.may v hv);have:=f.al;have:=f.tl;omega
  have hfl:(ownOf r.ID r.Views).Filter.length≤80:=h.own_ok.f
  have cF:=c26 r (by omega) (by omega)
  have hp1:=parse_ok (ownOf r.ID r.Views).Filter
  have hp2:=parse_short (ownOf r.ID r.Views).Filter
  have cW:X.call 30 [encRepl r] [] ⟨encView r.own,[],[]⟩:=c30 r (by omega)
  have hel:=h.own_el
  have hwv:∀w∈r.Views,w.Seen.length≤6∧w.Filter.length≤80∧0≤w.Rev∧(w.Rev≠0→w.Epochs.length=size):=fun w hw=>⟨(h.vs w hw).slen,(h.vs w hw).f,(h.vs w hw).v0,(h.vs w hw).el⟩
  have hkn:∀v,r.known parse v=true→(∀w∈r.Views,w.Rev≠0∧¬(headAt w.Seen v.Item).cmp v.S<0∧∀k,k<size→r.own.Epochs.getD k 0≤w.Epochs.getD k 0)∧(r.Views.any fun w=>(parse w.Filter).1.lets v)=true:=fun v hv=>by
   obtain⟨h1,h2⟩:=known_inv hv
   refine⟨fun w hw=> ?_,List.any_eq_true.2 h2⟩
   obtain⟨q1,q2,q3⟩:=knows_inv (h1 w hw)
   exact⟨q1,q2,fun k hk=>q3 k (by omega)⟩
  obtain⟨keep,hkp⟩:∃keep:Version→Bool,keep=fun v:Version=>(r.flt parse).lets v|| !r.known parse v:=⟨_,rfl⟩
  have hsw:r.sweep parse={ r with Held:=r.Held.filter keep } :=by rw[hkp];rfl
  rw[hsw]at cS
  have hkl:=List.length_filter_le keep r.Held
  have hall:((r.Held.take r.Held.length).filter keep).length=(r.Held.filter keep).length:=by rw[List.take_length]
  have hout:∀v,keep v=false→(r.flt parse).lets v=false∧r.known parse v=true:=fun v hv=>by rw[hkp]at hv;simpa using hv
  have hown:r.own=ownOf r.ID r.Views:=rfl
  clear hsw h hf hkp
  refine spec_of ok Go.Proofs.Tryz.func4 ok4 ?_
  refine(.c (@Tryz.c15) (.F (.k (150<(↑(List.map encB l).length:Int)) (150<l.length) (by simp only[List.length_map,ciLt]) (fun a3=>False.elim (by omega)) (fun a3=> .c (@cU) (.c (@cS)
   (.c (@cV) (.F (.F (.F (.F (.F (.F (.l (r.L=r.L) (True) (by simp only []) (fun a0=>(a0 trivial).elim) (fun a0=> .ev (r.L=r.L) (by simp only []) a0 (.ev (r.L=r.L) (by simp only []) a0
   (.ev (r.L=r.L) (by simp only []) a0 (.ev (r.L=r.L) (by simp only []) a0 (.ev (r.L=r.L) (by simp only []) a0 (.ev (r.N=r.N) (by simp only []) a0 (.ev (r.N=r.N) (by simp only []) a0
   (.ev (r.N=r.N) (by simp only []) a0 (.ev (r.N=r.N) (by simp only []) a0 (.ev (r.N=r.N) (by simp only []) a0 (.ev (r.N=r.N) (by simp only []) a0 (.ev (r.ID=r.ID) (by simp only []) a0
   (.ev (r.ID=r.ID) (by simp only []) a0 (.ev (r.ID=r.ID) (by simp only []) a0 (.ev (r.ID=r.ID) (by simp only []) a0 (.ev (r.ID=r.ID) (by simp only []) a0
   (.ev (r.ID=r.ID) (by simp only []) a0 (.ev (r.Size=r.Size) (by simp only []) a0 (.ev (r.Size=r.Size) (by simp only []) a0 (.ev (r.Size=r.Size) (by simp only []) a0
   (.ev (r.Size=r.Size) (by simp only []) a0 (.ev (r.Size=r.Size) (by simp only []) a0 (.ev (r.Size=r.Size) (by simp only []) a0 (.ev (r.Quota=r.Quota) (by simp only []) a0
   (.c (@cF) ?_))))))))))))))))))))))))))))))))))))))
  refine Sat.pLoop 12 (St.mk [(3,.ref (.head 3 0) 0 0),(4,.ref (.head 4 0) 0 0),(5,.ref (.head 5 0) 0 0),(6,.int .i64 0),(7,.int .i64 0)] [(.head 3 0,.box (encRepl r) true),(.head 4 0,.box
   (.agg [.int .i64 r.ID,.int .i64 r.Size,.int .i64 r.L,.int .i64 r.N,.int .i64 r.Quota,.tree (List.map encVersion (List.filter keep r.Held)),.tree (List.map encView r.Views)]) true),
   (.head 5 0,.box (encFlt (Repl.flt parse r)) true)]) (by kernel_rfl) (fun(i:Nat)=>⟨[(3,.ref (.head 3 0) 0 0),(4,.ref (.head 4 0) 0 0),(5,.ref
   (.head 5 0) 0 0),(6,.int .i64 ((r.Held.take i).filter keep).length),(7,.int .i64 i)],[(.head 3 0,.box (encRepl r) true),(.head 4 0,.box (encRepl { r with Held:=r.Held.filter keep }) true),
   (.head 5 0,.box (encFlt (r.flt parse)) true)]⟩) (fun i=>i≤r.Held.length) (fun i=>r.Held.length-i) 0 rfl ?_ ?_
  ·omega
  ·intro i hi again
   by_cases hi2:i<r.Held.length
   ·obtain⟨v,hv⟩:∃v,r.Held[i]? =some v:=⟨r.Held[i],by simp⟩
    have hvm:=hfit v (List.mem_of_getElem? hv)
    have hv1:=hvm.1
    have hv2:=hvm.2
    have hst:((r.Held.take (i+1)).filter keep).length=((r.Held.take i).filter keep).length+(if keep v then 1 else 0):=by
     rw[take_succ hv,List.filter_append,List.length_append]
     cases c:keep v<;>simp[c]
    cases hkv:keep v with
    |true=>
     have hpos:=filter_pos hv hkv
     have hlt:=(List.getElem?_eq_some_iff.1 hpos).1
     have cE:=c27 v v (by omega)
     rw[decide_eq_true rfl]at cE
     rw[hkv]at hst
     simp only[if_true]at hst
     generalize ((r.Held.take i).filter keep).length=k at*
     clear hkn hout hwv hfit
     refine(.el encVersion hi2 (.T (.eh encVersion hv (.el encVersion hlt (.el encVersion hlt (.el encVersion hlt (.el encVersion hlt (.T (.eh encVersion hpos (.el encVersion hlt (.el encVersion hlt
      (.el encVersion hlt (.c (@cE) (.el encVersion hlt (.T (have ad:=wI64' ((↑k:Int)+(1:Int));have ae:=wI64' ((↑i:Int)+(1:Int)); .A (St.mk [(3,.ref (.head 3 0) 0 0),(4,.ref
      (.head 4 0) 0 0),(5,.ref (.head 5 0) 0 0),(6,.int .i64 (IntKind.i64.wrap ((↑k:Int)+1))),(7,.int .i64 (IntKind.i64.wrap ((↑i:Int)+1)))] [(.head 3 0,.box (encRepl r) true),
      (.head 4 0,.box
      (.agg [.int .i64 r.ID,.int .i64 r.Size,.int .i64 r.L,.int .i64 r.N,.int .i64 r.Quota,.tree (List.map encVersion (List.filter keep r.Held)),.tree (List.map encView r.Views)]) true),
      (.head 5 0,.box (encFlt (Repl.flt parse r)) true)]) (by simp[encRepl,encFlt, *];done) (again (i+(1:Nat)) (by omega) (by omega))))))))))))))))))
    |false=>
     obtain⟨o1,o2⟩:=hout v hkv
     obtain⟨n1,n2⟩:=hkn v o2
     rw[hkv]at hst
     simp only[Bool.false_eq_true,if_false,Nat.add_zero]at hst
     have hnot:∀u∈r.Held.filter keep,u≠v:=fun u hu e=>by
      have:=(List.mem_filter.1 hu).2
      rw[e,hkv]at this;cases this
     have hul:∀u∈r.Held.filter keep,u.Attrs.length≤1000:=fun u hu=>(hfit u (List.mem_filter.1 hu).1).1
     have cL:X.call 32 [encFlt (r.flt parse),encVersion v] [] ⟨.bool false,[],[]⟩:=by
      have:=c32 v (by omega) (by omega) (r.flt parse) hp1 hp2
      rw[o1]at this;exact this
     have again_s:Sat X 4 (loopD X.cfg 4 Go.Proofs.Tryz.f4 0 19 ⟨[(3,.ref (.head 3 0) 0 0),(4,.ref (.head 4 0) 0 0),(5,.ref (.head 5 0) 0 0),(6,.int .i64 ((r.Held.take i).filter keep).length),(7,.int .i64 i),(8,.ref (.head 8 0) 0 0),(9,.bool false),(10,.int .i64 0)],[(.head 3 0,.box (encRepl r) true),(.head 4 0,.box (encRepl { r with Held:=r.Held.filter keep }) true),(.head 5 0,.box (encFlt (r.flt parse)) true),(.head 8 0,.box (encVersion v) true)]⟩) (· =⟨.bool true,[],[]⟩):=by
      clear hkn hout hnot hul hfit
      refine Sat.pLoop 19 (St.mk [(3,.ref (.head 3 0) 0 0),(4,.ref (.head 4 0) 0 0),(5,.ref
       (.head 5 0) 0 0),(6,.int .i64 (↑(List.filter keep (List.take i r.Held)).length:Int)),(7,.int .i64 (↑i:Int)),(8,.ref
       (.head 8 0) 0 0),(9,.bool false),(10,.int .i64 0)] [(.head 3 0,.box (encRepl r) true),(.head 4 0,.box (encRepl (Repl.mk r.ID r.Size r.L r.N r.Quota (List.filter keep r.Held) r.Views)) true),
       (.head 5 0,.box (encFlt (Repl.flt parse r)) true),(.head 8 0,.box (encVersion v) true)]) (by kernel_rfl) (fun(p:Nat×Bool)=>⟨[(3,.ref (.head 3 0) 0 0),(4,.ref (.head 4 0) 0 0),(5,.ref
       (.head 5 0) 0 0),(6,.int .i64 ((r.Held.take i).filter keep).length),(7,.int .i64 i),(8,.ref (.head 8 0) 0 0),(9,.bool p.2),(10,.int .i64 p.1)],[(.head 3 0,.box (encRepl r) true),
       (.head 4 0,.box (encRepl { r with Held:=r.Held.filter keep }) true),(.head 5 0,.box (encFlt (r.flt parse)) true),
       (.head 8 0,.box (encVersion v) true)]⟩) (fun p=>p.1≤size∧p.2=(r.Views.take p.1).any fun w=>(parse w.Filter).1.lets v) (fun p=>size-p.1) (0,false) rfl ?_ ?_
      ·exact⟨by simp,by simp⟩
      ·rintro⟨n,kept⟩ hI again2
       obtain⟨i1,i2⟩:=hI
       simp only at i1 i2
       by_cases hn:n<size
       ·obtain⟨w,hw⟩:∃w,r.Views[n]? =some w:=⟨r.Views[n]'(by omega),by simp⟩
        obtain⟨w1,w2,w3⟩:=n1 w (List.mem_of_getElem? hw)
        obtain⟨w4,w5,w6,w7⟩:=hwv w (List.mem_of_getElem? hw)
        have w8:=w7 w1
        have q1:=parse_ok w.Filter
        have q2:=parse_short w.Filter
        have hnx:(r.Views.take (n+1)).any (fun w=>(parse w.Filter).1.lets v)=(kept||(parse w.Filter).1.lets v):=by
         rw[take_succ hw,List.any_append,←i2];simp
        clear n1 hwv i2
        refine(.i ((↑n:Int)<r.Size) (fun a4=> .T (.eh encView hw (.i (w.Rev<1) (fun a1=>False.elim (by omega)) (fun a1=> .iF a1 (.iF a1 (.iF a1 (.iF a1 (.iF a1 (.iF a1
         (.c (@Tryz.c29 (w.Seen) (v.Item) (by omega)) (.iF a1 (.c (@Tryz.c28 (headAt w.Seen v.Item) (v.S)) (.iF a1 (.iF a1 (.iF w2 ?_))))))))))))))) (fun a4=>False.elim (by omega)))
        refine Sat.pLoop 25 (St.mk [(3,.ref (.head 3 0) 0 0),(4,.ref (.head 4 0) 0 0),(5,.ref
         (.head 5 0) 0 0),(6,.int .i64 (↑(List.filter keep (List.take i r.Held)).length:Int)),(7,.int .i64 (↑i:Int)),(8,.ref (.head 8 0) 0 0),(9,.bool kept),(10,.int .i64 (↑n:Int)),(11,.ref
         (.head 11 0) 0 0),(12,.int .i64 0)] [(.head 3 0,.box (encRepl r) true),(.head 4 0,.box
         (.agg [.int .i64 r.ID,.int .i64 r.Size,.int .i64 r.L,.int .i64 r.N,.int .i64 r.Quota,.tree (List.map encVersion (List.filter keep r.Held)),.tree (List.map encView r.Views)]) true),
         (.head 5 0,.box (encFlt (Repl.flt parse r)) true),(.head 8 0,.box (encVersion v) true),(.head 11 0,.box (encView w) true)]) (by kernel_rfl) (fun(e:Nat)=>⟨[(3,.ref (.head 3 0) 0 0),(4,.ref
         (.head 4 0) 0 0),(5,.ref (.head 5 0) 0 0),(6,.int .i64 ((r.Held.take i).filter keep).length),(7,.int .i64 i),(8,.ref (.head 8 0) 0 0),(9,.bool kept),(10,.int .i64 n),(11,.ref
         (.head 11 0) 0 0),(12,.int .i64 e)],[(.head 3 0,.box (encRepl r) true),(.head 4 0,.box (encRepl { r with Held:=r.Held.filter keep }) true),(.head 5 0,.box (encFlt (r.flt parse)) true),
         (.head 8 0,.box (encVersion v) true),(.head 11 0,.box (encView w) true)]⟩) (fun e=>e≤size) (fun e=>size-e) 0 rfl ?_ ?_
        ·omega
        ·intro e he again3
         by_cases he2:e<size
         ·obtain⟨a,ha⟩:∃a,w.Epochs[e]? =some a:=⟨w.Epochs[e]'(by omega),by simp⟩
          obtain⟨b,hb⟩:∃b,r.own.Epochs[e]? =some b:=⟨r.own.Epochs[e]'(by omega),by simp⟩
          have hle:=w3 e he2
          rw[List.getD,List.getD,ha,hb]at hle
          simp only[Option.getD_some]at hle
          clear w3 hnx
          refine(.i ((↑e:Int)<r.Size) (fun a5=> .T (.eh encI ha (.c (@cW) (.T (.eh encI hb (.i (a<b) (fun a6=>False.elim (by omega))
           (fun a6=>have a7:=wI64' ((↑e:Int)+(1:Int)); .A (St.mk [(3,.ref (.head 3 0) 0 0),(4,.ref (.head 4 0) 0 0),(5,.ref
           (.head 5 0) 0 0),(6,.int .i64 (↑(List.filter keep (List.take i r.Held)).length:Int)),(7,.int .i64 (↑i:Int)),(8,.ref (.head 8 0) 0 0),(9,.bool kept),(10,.int .i64 (↑n:Int)),(11,.ref
           (.head 11 0) 0 0),(12,.int .i64 (IntKind.i64.wrap ((↑e:Int)+1)))] [(.head 3 0,.box (encRepl r) true),(.head 4 0,.box
           (.agg [.int .i64 r.ID,.int .i64 r.Size,.int .i64 r.L,.int .i64 r.N,.int .i64 r.Quota,.tree (List.map encVersion (List.filter keep r.Held)),.tree (List.map encView r.Views)]) true),
           (.head 5 0,.box (encFlt (Repl.flt parse r)) true),(.head 8 0,.box (encVersion v) true),
           (.head 11 0,.box (encView w) true)]) (by simp[encFlt,encVersion,encView,encRepl,a7]) (again3 (e+(1:Nat)) (by omega) (by omega))))))))) (fun a5=>False.elim (by omega)))
         ·clear w3
          refine(.i ((↑e:Int)<r.Size) (fun a8=>False.elim (by omega)) (fun a8=> .c (@Tryz.c31 (w.Filter) (by omega)) (.n kept (fun a2=> .t a2 (.t a2 (.t a2
           (have a9:=wI64' ((↑n:Int)+(1:Int)); .A (St.mk [(3,.ref (.head 3 0) 0 0),(4,.ref (.head 4 0) 0 0),(5,.ref
           (.head 5 0) 0 0),(6,.int .i64 (↑(List.filter keep (List.take i r.Held)).length:Int)),(7,.int .i64 (↑i:Int)),(8,.ref
           (.head 8 0) 0 0),(9,.bool true),(10,.int .i64 (IntKind.i64.wrap ((↑n:Int)+1)))] [(.head 3 0,.box (encRepl r) true),(.head 4 0,.box
           (.agg [.int .i64 r.ID,.int .i64 r.Size,.int .i64 r.L,.int .i64 r.N,.int .i64 r.Quota,.tree (List.map encVersion (List.filter keep r.Held)),.tree (List.map encView r.Views)]) true),
           (.head 5 0,.box (encFlt (Repl.flt parse r)) true),
           (.head 8 0,.box (encVersion v) true)]) (by simp[encFlt,encVersion,encRepl,a9]) (again2 ((n+(1:Nat),Bool.true)) ⟨(by dsimp only;omega),(by dsimp only;(clear cU cV cF cW cS again cL again2 again3;(rw[hnx];simp[*];done)))⟩ (by dsimp only;omega))))))
           (fun a2=> .f a2 (.f a2 (.c (@Tryz.c32 (v) (by omega) (by omega) ((parse w.Filter).fst) ‹_› ‹_›) (.f a2 (have aa:=wI64' ((↑n:Int)+(1:Int)); .A (St.mk [(3,.ref
           (.head 3 0) 0 0),(4,.ref (.head 4 0) 0 0),(5,.ref (.head 5 0) 0 0),(6,.int .i64 (↑(List.filter keep (List.take i r.Held)).length:Int)),(7,.int .i64 (↑i:Int)),(8,.ref
           (.head 8 0) 0 0),(9,.bool (Flt.lets v (parse w.Filter).fst)),(10,.int .i64 (IntKind.i64.wrap ((↑n:Int)+1)))] [(.head 3 0,.box (encRepl r) true),(.head 4 0,.box
           (.agg [.int .i64 r.ID,.int .i64 r.Size,.int .i64 r.L,.int .i64 r.N,.int .i64 r.Quota,.tree (List.map encVersion (List.filter keep r.Held)),.tree (List.map encView r.Views)]) true),
           (.head 5 0,.box (encFlt (Repl.flt parse r)) true),
           (.head 8 0,.box (encVersion v) true)]) (by simp[encFlt,encVersion,encRepl,aa]) (again2 ((n+(1:Nat),Flt.lets v (parse w.Filter).fst)) ⟨(by dsimp only;omega),(by dsimp only;(clear cU cV cF cW cS again cL again2 again3;(rw[hnx];simp[*];done)))⟩ (by dsimp only;omega))))))))))
       ·rw[List.take_of_length_le (by omega)]at i2
        rw[n2]at i2
        subst i2
        clear n1 hwv
        rw[←hst]at again2 ⊢
        refine(.i ((↑n:Int)<r.Size) (fun ab=>False.elim (by omega)) (fun ab=> .c (@cL) (.F (.F (.F (.F (have ac:=wI64' ((↑i:Int)+(1:Int)); .A (St.mk [(3,.ref (.head 3 0) 0 0),(4,.ref
         (.head 4 0) 0 0),(5,.ref
         (.head 5 0) 0 0),(6,.int .i64 (↑(List.filter keep (List.take (i+1) r.Held)).length:Int)),(7,.int .i64 (IntKind.i64.wrap ((↑i:Int)+1)))] [(.head 3 0,.box (encRepl r) true),(.head 4 0,.box
         (.agg [.int .i64 r.ID,.int .i64 r.Size,.int .i64 r.L,.int .i64 r.N,.int .i64 r.Quota,.tree (List.map encVersion (List.filter keep r.Held)),.tree (List.map encView r.Views)]) true),
         (.head 5 0,.box (encFlt (Repl.flt parse r)) true)]) (by simp[encFlt,encRepl,ac]) (again (i+(1:Nat)) (by omega) (by omega)))))))))
     by_cases hk2:((r.Held.take i).filter keep).length<(r.Held.filter keep).length
     ·obtain⟨u,hu⟩:∃u,(r.Held.filter keep)[((r.Held.take i).filter keep).length]? =some u:=⟨_,List.getElem?_eq_getElem hk2⟩
      have cE:=c27 u v (by have:=hul u (List.mem_of_getElem? hu);omega)
      rw[decide_eq_false (hnot u (List.mem_of_getElem? hu))]at cE
      clear hkn hout hnot hul hfit n1 n2 hwv hst
      generalize ((r.Held.take i).filter keep).length=k at*
      refine(.el encVersion hi2 (.T (.eh encVersion hv (.el encVersion hk2 (.el encVersion hk2 (.el encVersion hk2 (.el encVersion hk2 (.T (.eh encVersion hu (.el encVersion hk2 (.el encVersion hk2
       (.el encVersion hk2 (.c (@cE) (.el encVersion hk2 (.F (Sat.pJoinE (L:=loopD X.cfg (4:FuncId) Proofs.Tryz.f4 0 19) (St.mk [(3,.ref (.head 3 0) 0 0),(4,.ref (.head 4 0) 0 0),(5,.ref
       (.head 5 0) 0 0),(6,.int .i64 (↑k:Int)),(7,.int .i64 (↑i:Int)),(8,.ref (.head 8 0) 0 0),(9,.bool false),(10,.int .i64 0)] [(.head 3 0,.box (encRepl r) true),(.head 4 0,.box
       (.agg [.int .i64 r.ID,.int .i64 r.Size,.int .i64 r.L,.int .i64 r.N,.int .i64 r.Quota,.tree (List.map encVersion (List.filter keep r.Held)),.tree (List.map encView r.Views)]) true),
       (.head 5 0,.box (encFlt (Repl.flt parse r)) true),(.head 8 0,.box (encVersion v) true)]) (by kernel_rfl) rfl rfl (again_s)))))))))))))))))
     ·clear hkn hout hnot hul hfit n1 n2 hwv hst
      generalize ((r.Held.take i).filter keep).length=k at*
      refine(.el encVersion hi2 (.T (.eh encVersion hv (.en encVersion hk2 (.en encVersion hk2 (.en encVersion hk2 (.en encVersion hk2 (.en encVersion hk2 (.en encVersion hk2 (.en encVersion hk2
       (.en encVersion hk2 (.F (Sat.pJoinE (L:=loopD X.cfg (4:FuncId) Proofs.Tryz.f4 0 19) (St.mk [(3,.ref (.head 3 0) 0 0),(4,.ref (.head 4 0) 0 0),(5,.ref
       (.head 5 0) 0 0),(6,.int .i64 (↑k:Int)),(7,.int .i64 (↑i:Int)),(8,.ref (.head 8 0) 0 0),(9,.bool false),(10,.int .i64 0)] [(.head 3 0,.box (encRepl r) true),(.head 4 0,.box
       (.agg [.int .i64 r.ID,.int .i64 r.Size,.int .i64 r.L,.int .i64 r.N,.int .i64 r.Quota,.tree (List.map encVersion (List.filter keep r.Held)),.tree (List.map encView r.Views)]) true),
       (.head 5 0,.box (encFlt (Repl.flt parse r)) true),(.head 8 0,.box (encVersion v) true)]) (by kernel_rfl) rfl rfl (again_s))))))))))))))
   ·obtain rfl:i=r.Held.length:=by omega
    rw[hall]
    clear hkn hout hwv hfit
    refine(.en encVersion hi2 (.q (Res.mk
     (.bool (decide ((↑(List.filter keep r.Held).length:Int)=(↑(List.map encVersion (List.filter keep r.Held)).length:Int)))) [] []) (by(clear cU cV cF cW cS again;simp_all))))
 ·refine spec_of ok Go.Proofs.Tryz.func4 ok4 ?_
  refine(.c (@Tryz.c15) (.F (.k (150<(↑(List.map encB l).length:Int)) (150<l.length) (by simp only[List.length_map,ciLt]) (fun _h3=> .r) (fun _h3=>False.elim (by omega)))))
theorem law_DropSafe (x0:List UInt8) (_h0:(∀x∈x0,True)∧x0.length≤maxLen):X.call 4 [.tree (x0.map encB)] [] ⟨.bool true,[],[]⟩:=c4 x0
end Go.Ab.Tryz
