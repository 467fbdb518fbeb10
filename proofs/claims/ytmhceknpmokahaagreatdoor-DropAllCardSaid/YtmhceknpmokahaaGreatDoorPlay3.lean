/- Package cardamomplay: writes and steps. -/
import Derived.Test.YtmhceknpmokahaaGreatDoorPlay2
import Derived.Test.YtmhceknpmokahaaGreatDoorAbEdge
namespace Go.Ab.Tryz
open Go
set_option maxRecDepth 100000
set_option maxHeartbeats 4000000
theorem num_ex (p:Picks) (hp:p.l.length≤100000) (m:Int) (h1:1≤m) (h2:m≤1000):∃(r:Int) (q:Picks),X.call 63 [.ref (.inc 0) 0 0,.int .i64 m] [.box (encPicks p) true] ⟨.int .i64 r,[.box (encPicks q) true],[]⟩∧0≤r∧r<m∧q.l.length≤100000:=
 ⟨_,_,(c63 p m hp (by omega) h1).1,(p.num_eq h1).1,(p.num_eq h1).2.1,by rw[(p.num_eq h1).2.2];exact hp⟩
theorem numa_ex (p:Picks) (hp:p.l.length≤100000) (m:Int) (h2:m≤1000):∃(r:Int) (q:Picks),X.call 63 [.ref (.inc 0) 0 0,.int .i64 m] [.box (encPicks p) true] ⟨.int .i64 r,[.box (encPicks q) true],[]⟩∧0≤r∧r≤255∧q.l.length≤100000:=
 ⟨_,_,(c63a p m hp (by omega)).1,p.num_lo m,p.num_255 m,by rw[p.num_l];exact hp⟩
theorem tag_ex (p:Picks) (hp:p.l.length≤100000):∃(r:List UInt8) (q:Picks),X.call 67 [.ref (.inc 0) 0 0] [.box (encPicks p) true] ⟨.str r,[.box (encPicks q) true],[]⟩∧r.length≤100∧q.l.length≤100000:=
 ⟨_,_,c67 p hp,Nat.le_trans (Picks.tag_len _) (by decide),by rw[p.tag_l];exact hp⟩
theorem want_mem (p:Picks):p.want.1∈wants:=by
 have h0:=p.num_lo 10;have h1:=p.num_hi (m:=10) (by omega)
 show wants.getD (p.num 10).1.toNat [] ∈wants
 have:(p.num 10).1.toNat<wants.length:=by show _<10;omega
 rw[List.getD_eq_getElem?_getD,List.getElem?_eq_getElem this]
 exact List.getElem_mem _
theorem want_ex (p:Picks) (hp:p.l.length≤100000):∃(r:List UInt8) (q:Picks),X.call 89 [.ref (.inc 0) 0 0] [.box (encPicks p) true] ⟨.str r,[.box (encPicks q) true],[]⟩∧(r.length≤100∧r∈goodF)∧q.l.length≤100000:=
 ⟨_,_,c89 p hp,⟨Nat.le_trans (Picks.want_len _) (by decide),List.mem_cons_of_mem _ (want_mem p)⟩,by rw[p.want_l];exact hp⟩
abbrev StepOk (s:Step):Prop:=1≤s.Kind∧s.To<1000000∧s.Attrs.length≤1000∧s.Tag.length≤1000∧s.Text.length≤1000∧(s.Kind=3→s.Text∈goodF)
theorem write_ex (p:Picks) (hp:p.l.length≤100000) (size:Int) (h1:size≤100):∃(s:Step) (q:Picks),X.call 44 [.ref (.inc 0) 0 0,.int .i64 size] [.box (encPicks p) true] ⟨encStep s,[.box (encPicks q) true],[]⟩∧StepOk s∧q.l.length≤100000:=by
 obtain⟨r,p1,c1,r0,r1,l1⟩:=numa_ex p hp size (by omega)
 obtain⟨i,p2,c2,i0,i1,l2⟩:=num_ex p1 (by omega) 4 (by omega) (by omega)
 obtain⟨k,p3,c3,k0,k1,l3⟩:=num_ex p2 (by omega) 8 (by omega) (by omega)
 by_cases e0:k=0
 ·refine⟨⟨2,IntKind.i64.wrap (1+r),0,0,IntKind.i64.wrap (1+i),[],[],[]⟩,p3, ?_,⟨by simp,by simp,by simp,by simp,by simp,by simp⟩,(by assumption)⟩
  refine spec_of ok Go.Proofs.Tryz.func44 ok44 ?_
  refine(.c (@c1) (.c (@c2) (.c (@c3) (.it e0 (.r)))))
 by_cases e1:k=1∨k=2
 ·obtain⟨w,p4,c4,w1,l4⟩:=want_ex p3 (by omega)
  refine⟨⟨3,IntKind.i64.wrap (1+r),0,0,0,[],[],w⟩,p4, ?_,⟨by simp,by simp,by simp,by simp,by simp only;omega,fun _=>w1.2⟩,(by assumption)⟩
  refine spec_of ok Go.Proofs.Tryz.func44 ok44 ?_
  refine(.c (@c1) (.c (@c2) (.c (@c3) (.iF e0 (.i (k=1) (fun a0=> .it a0 (.c (@c4) (.r))) (fun a0=> .i (k=2) (fun a1=> .c (@c4) (.r)) (fun a1=>False.elim (by omega))))))))
 obtain⟨v,p4,c4,v0,v1,l4⟩:=num_ex p3 (by omega) 2 (by omega) (by omega)
 obtain⟨t,p5,c5,t0,l5⟩:=tag_ex p4 (by omega)
 obtain⟨x,p6,c6,x0,x1,l6⟩:=num_ex p5 (by omega) 2 (by omega) (by omega)
 have e2:¬k=1:=fun h=>e1 (Or.inl h)
 have e3:¬k=2:=fun h=>e1 (Or.inr h)
 obtain⟨val,hval⟩:∃y,[(5:Int),6][v.toNat]? =some y:=⟨_,List.getElem?_eq_getElem (by simp only[List.length_cons,List.length_nil];omega)⟩
 obtain⟨txt,htxt⟩:∃y,[[(120:UInt8)],[121,121]][x.toNat]? =some y:=⟨_,List.getElem?_eq_getElem (by simp only[List.length_cons,List.length_nil];omega)⟩
 have ht:txt.length≤100:=by
  have:=List.mem_of_getElem? htxt
  simp only[List.mem_cons,List.not_mem_nil,or_false]at this
  rcases this with rfl|rfl<;>decide
 refine⟨⟨1,IntKind.i64.wrap (1+r),0,0,IntKind.i64.wrap (1+i),[⟨1,val⟩],t,txt⟩,p6, ?_,⟨by simp,by simp,by simp,by simp only;omega,by simp only;omega,by simp⟩,(by assumption)⟩
 have hx:0≤x∧x<2:=⟨x0,x1⟩
 have hv:0≤v∧v<2:=⟨v0,v1⟩
 clear e1 ht
 refine spec_of ok Go.Proofs.Tryz.func44 ok44 ?_
 refine(.c (@c1) (.c (@c2) (.c (@c3) (.iF e0 (.iF e2 (.iF e3 (.b (.b (.c (@c4) (.it hv (.eh (AV.int IntKind.i64) hval (.b (.b (.c (@c5) (.b (.c (@c6) (.it hx (.eh AV.str htxt (.r)))) (.c (@c6) (.b
  (.it hx (.eh AV.str htxt (.r))) (.b (.it hx (.eh AV.str htxt (.r))) (.it hx (.eh AV.str htxt (.r)))))))) (.c (@c5) (.c (@c6) (.it hx (.eh AV.str htxt (.r)))))) (.b (.c (@c5) (.b (.b (.c (@c6) (.it hx
  (.eh AV.str htxt (.r)))) (.c (@c6) (.b (.it hx (.eh AV.str htxt (.r))) (.b (.it hx (.eh AV.str htxt (.r))) (.it hx (.eh AV.str htxt (.r))))))) (.b (.b (.c (@c6) (.it hx (.eh AV.str htxt (.r))))
  (.c (@c6) (.it hx (.eh AV.str htxt (.r))))) (.c (@c6) (.b (.b (.it hx (.eh AV.str htxt (.r))) (.b (.it hx (.eh AV.str htxt (.r))) (.it hx (.eh AV.str htxt (.r))))) (.it hx (.eh AV.str htxt (.r))))))))
  (.b (.c (@c5) (.c (@c6) (.it hx (.eh AV.str htxt (.r))))) (.c (@c5) (.b (.c (@c6) (.it hx (.eh AV.str htxt (.r)))) (.c (@c6) (.it hx (.eh AV.str htxt (.r)))))))))))) (.c (@c4) (.it hv
  (.eh (AV.int IntKind.i64) hval (.b (.c (@c5) (.c (@c6) (.it hx (.eh AV.str htxt (.r))))) (.c (@c5) (.b (.c (@c6) (.it hx (.eh AV.str htxt (.r)))) (.c (@c6) (.it hx (.eh AV.str htxt (.r))))))))))) (.b
  (.c (@c4) (.b (.it hv (.eh (AV.int IntKind.i64) hval (.b (.b (.c (@c5) (.b (.c (@c6) (.it hx (.eh AV.str htxt (.r)))) (.c (@c6) (.b (.it hx (.eh AV.str htxt (.r))) (.b (.it hx (.eh AV.str htxt (.r)))
  (.it hx (.eh AV.str htxt (.r)))))))) (.c (@c5) (.c (@c6) (.it hx (.eh AV.str htxt (.r)))))) (.b (.c (@c5) (.b (.b (.c (@c6) (.it hx (.eh AV.str htxt (.r)))) (.c (@c6) (.b (.it hx (.eh AV.str htxt
  (.r))) (.b (.it hx (.eh AV.str htxt (.r))) (.it hx (.eh AV.str htxt (.r))))))) (.b (.b (.c (@c6) (.it hx (.eh AV.str htxt (.r)))) (.c (@c6) (.it hx (.eh AV.str htxt (.r))))) (.c (@c6) (.b (.b (.it hx
  (.eh AV.str htxt (.r))) (.b (.it hx (.eh AV.str htxt (.r))) (.it hx (.eh AV.str htxt (.r))))) (.it hx (.eh AV.str htxt (.r)))))))) (.b (.c (@c5) (.c (@c6) (.it hx (.eh AV.str htxt (.r))))) (.c (@c5)
  (.b (.c (@c6) (.it hx (.eh AV.str htxt (.r)))) (.c (@c6) (.it hx (.eh AV.str htxt (.r))))))))))) (.b (.c (@c5) (.b (.it hv (.eh (AV.int IntKind.i64) hval (.b (.b (.c (@c6) (.it hx (.eh AV.str htxt
  (.r)))) (.c (@c6) (.b (.it hx (.eh AV.str htxt (.r))) (.b (.it hx (.eh AV.str htxt (.r))) (.it hx (.eh AV.str htxt (.r))))))) (.b (.b (.c (@c6) (.it hx (.eh AV.str htxt (.r)))) (.c (@c6) (.it hx
  (.eh AV.str htxt (.r))))) (.c (@c6) (.b (.b (.it hx (.eh AV.str htxt (.r))) (.b (.it hx (.eh AV.str htxt (.r))) (.it hx (.eh AV.str htxt (.r))))) (.it hx (.eh AV.str htxt (.r))))))))) (.b (.b (.it hv
  (.eh (AV.int IntKind.i64) hval (.b (.c (@c6) (.it hx (.eh AV.str htxt (.r)))) (.c (@c6) (.it hx (.eh AV.str htxt (.r))))))) (.c (@c6) (.it hx (.eh AV.str htxt (.it hv (.eh (AV.int IntKind.i64) hval
  (.r))))))) (.c (@c6) (.b (.it hv (.eh (AV.int IntKind.i64) hval (.b (.b (.it hx (.eh AV.str htxt (.r))) (.b (.it hx (.eh AV.str htxt (.r))) (.it hx (.eh AV.str htxt (.r))))) (.it hx (.eh AV.str htxt
  (.r)))))) (.it hx (.eh AV.str htxt (.it hv (.eh (AV.int IntKind.i64) hval (.r)))))))))) (.b (.it hv (.eh (AV.int IntKind.i64) hval (.b (.c (@c5) (.c (@c6) (.it hx (.eh AV.str htxt (.r))))) (.c (@c5)
  (.b (.c (@c6) (.it hx (.eh AV.str htxt (.r)))) (.c (@c6) (.it hx (.eh AV.str htxt (.r))))))))) (.c (@c5) (.b (.it hv (.eh (AV.int IntKind.i64) hval (.b (.c (@c6) (.it hx (.eh AV.str htxt (.r))))
  (.c (@c6) (.it hx (.eh AV.str htxt (.r))))))) (.c (@c6) (.it hx (.eh AV.str htxt (.it hv (.eh (AV.int IntKind.i64) hval (.r)))))))))))) (.b (.c (@c4) (.it hv (.eh (AV.int IntKind.i64) hval (.b
  (.c (@c5) (.c (@c6) (.it hx (.eh AV.str htxt (.r))))) (.c (@c5) (.b (.c (@c6) (.it hx (.eh AV.str htxt (.r)))) (.c (@c6) (.it hx (.eh AV.str htxt (.r)))))))))) (.c (@c4) (.b (.it hv
  (.eh (AV.int IntKind.i64) hval (.b (.c (@c5) (.c (@c6) (.it hx (.eh AV.str htxt (.r))))) (.c (@c5) (.b (.c (@c6) (.it hx (.eh AV.str htxt (.r)))) (.c (@c6) (.it hx (.eh AV.str htxt (.r)))))))))
  (.c (@c5) (.b (.it hv (.eh (AV.int IntKind.i64) hval (.b (.c (@c6) (.it hx (.eh AV.str htxt (.r)))) (.c (@c6) (.it hx (.eh AV.str htxt (.r))))))) (.c (@c6) (.it hx (.eh AV.str htxt (.it hv
  (.eh (AV.int IntKind.i64) hval (.r)))))))))))))))))))
end Go.Ab.Tryz
